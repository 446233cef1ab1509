/-
 WALKS of the package's functions, printed by this session's own program (auto.py).
-/
import Derived.Test.YthjkmhdgenmnoaaDoorProg
import Derived.Test.YthjkmhdgenmnoaaDoorEc
import Derived.Test.YthjkmhdgenmnoaaDoorRSeal
import Derived.Test.YthjkmhdgenmnoaaDoorEls
import Derived.Test.YthjkmhdgenmnoaaDoorWAes
import Derived.Test.YthjkmhdgenmnoaaDoorWKdf
import Derived.Test.YthjkmhdgenmnoaaDoorWWire
namespace Go.Proofs.YthjkmhdgenmnoaaDoor
set_option linter.unusedSimpArgs false
set_option linter.unusedVariables false
set_option linter.unusedSectionVars false
set_option maxRecDepth 8000
set_option maxHeartbeats 1000000
open Go Go.LW
theorem FSeal.mixed : Tryd.prog.follows .mixedOrders = true := by kernel_rfl
theorem FSeal.el24 : elD Tryd.prog 24 = some (1, 1, some (VU .u8 0#8)) := by kernel_rfl
theorem FSeal.sl24 : slB Tryd.prog 24 1 = true := by kernel_rfl
theorem FSeal.zv5 : (Tryd.prog.info? 5).bind (·.zero) = some (VU .u8 0#8) := by kernel_rfl
theorem FSeal.slu24 : Tryd.prog.underlying 24 = some (.slice 5) := by kernel_rfl
theorem FSeal.sz5 : szT Tryd.prog 5 1 = true := by kernel_rfl
theorem FSeal.isl24 : ∃ el, Tryd.prog.underlying 24 = some (.slice el) := ⟨5, by kernel_rfl⟩
theorem FSeal.agg23 : aggT Tryd.prog 23 32 = true := by kernel_rfl
theorem FSeal.z31 : zeroIs Tryd.prog 31 [(16, fun _ => VU .u8 0#8)] := zeroIs_agg (by kernel_rfl)
theorem FSeal.arr23 : arrB Tryd.prog 23 32 1 = true := by kernel_rfl
theorem FSeal.u5 : Tryd.prog.underlying 5 = some (.int .u8) := by kernel_rfl
theorem FSeal.z58 : zeroIs Tryd.prog 58 [(32, fun _ => VU .u8 0#8)] := zeroIs_agg (by kernel_rfl)
theorem FSeal.zv24 : (Tryd.prog.info? 24).bind (·.zero) = some (.slice none 0 0) := by kernel_rfl
theorem FSeal.slu40 : Tryd.prog.underlying 40 = some (.slice 24) := by kernel_rfl
theorem FSeal.sz24 : szT Tryd.prog 24 1 = true := by kernel_rfl
theorem FSeal.some3 : (Tryd.prog.underlying 3).isSome = true := by kernel_rfl
theorem FSeal.u73 : Tryd.prog.underlying 73 = some (.int .u64) := by kernel_rfl
theorem FSeal.some73 : (Tryd.prog.underlying 73).isSome = true := by kernel_rfl
theorem FSeal.arr58 : arrB Tryd.prog 58 32 1 = true := by kernel_rfl
theorem FSeal.sz58 : szT Tryd.prog 58 32 = true := by kernel_rfl
theorem FSeal.call26 : callB Tryd.prog 26 = true := by kernel_rfl
theorem FSeal.call25 : callB Tryd.prog 25 = true := by kernel_rfl
theorem FSeal.agg31 : aggT Tryd.prog 31 16 = true := by kernel_rfl
theorem FSeal.sz31 : szT Tryd.prog 31 16 = true := by kernel_rfl
theorem FSeal.call19 : callB Tryd.prog 19 = true := by kernel_rfl
theorem FSeal.arru31 : Tryd.prog.underlying 31 = some (.array 16 5) := by kernel_rfl
theorem FSeal.call21 : callB Tryd.prog 21 = true := by kernel_rfl
theorem FSeal.call20 : callB Tryd.prog 20 = true := by kernel_rfl
theorem FSeal.call23 : callB Tryd.prog 23 = true := by kernel_rfl
theorem FSeal.call22 : callB Tryd.prog 22 = true := by kernel_rfl
theorem FSeal.call24 : callB Tryd.prog 24 = true := by kernel_rfl
theorem seal_keys_ok {B : Nat} {w0 w : World} {L : List Rg} {iG0 : Nat} (hG0 : L[iG0]? = some ⟨some 0, 0, 8, fun q => VU .u32 (H256 q), false⟩) {iG1 : Nat} (hG1 : L[iG1]? = some ⟨some 1, 0, 64, fun q => VU .u32 (K256 q), false⟩) {key1 : Nat → BitVec 8} {r : ((List Byte) × (Nat → BitVec 8) × Nat) ⊕ ((List Byte) × (Nat → BitVec 8) × Nat) ⊕ ((Nat → BitVec 8) × (Nat → BitVec 8) × (Nat → BitVec 8) × (Nat → BitVec 8) × (List Byte) × (Nat → BitVec 8) × Nat)} (hR : seal_keys key1 r) (HST : St B w0 (L) w) :
  Calls Tryd.prog 21 #[AG [(32, fun q => VU .u8 (key1 q))]] w fun e w' => match r with | .inl z => ∃ ay1 : Option Addr, ∃ py1 : Option Nat, ∃ ny1 : Nat, ∃ cy1 : Nat, ∃ Fy1 : Nat → Byte, e = .returned (.tuple #[.pointer none, .slice ay1 ny1 cy1, AG [(16, fun q => VU .u8 (z.2.1 q))], VN z.2.2]) ∧ St B w0 (⟨py1, 0, cy1, fun q => VU .u8 (Fy1 q), true⟩ :: L) w' ∧ Ow ay1 py1 ny1 cy1 Fy1 z.1 | .inr (.inl z) => ∃ ry1 : Rg, ∃ ay1 : Option Addr, ∃ ny1 : Nat, ∃ cy1 : Nat, e = .returned (.tuple #[.pointer none, .slice ay1 ny1 cy1, AG [(16, fun q => VU .u8 (z.2.1 q))], VN z.2.2]) ∧ St B w0 (ry1 :: L) w' ∧ Bx (ry1 :: L) 0 ay1 ny1 cy1 z.1 | .inr (.inr z) => ∃ b0 : Nat, ∃ ry1 : Rg, ∃ ay1 : Option Addr, ∃ ny1 : Nat, ∃ cy1 : Nat, e = .returned (.tuple #[.pointer (some ⟨b0, 0, none⟩), .slice ay1 ny1 cy1, AG [(16, fun q => VU .u8 (z.2.2.2.2.2.1 q))], VN z.2.2.2.2.2.2]) ∧ St B w0 (⟨some b0, 0, 240, fun q => VU .u8 (z.1 q), true⟩ :: ⟨some b0, 240, 256, fun q => VU .u8 (z.2.1 q), true⟩ :: ⟨some b0, 496, 256, fun q => VU .u8 (z.2.2.1 q), true⟩ :: ⟨some b0, 752, 256, fun q => VU .u8 (z.2.2.2.1 q), true⟩ :: ry1 :: L) w' ∧ Bx (⟨some b0, 0, 240, fun q => VU .u8 (z.1 q), true⟩ :: ⟨some b0, 240, 256, fun q => VU .u8 (z.2.1 q), true⟩ :: ⟨some b0, 496, 256, fun q => VU .u8 (z.2.2.1 q), true⟩ :: ⟨some b0, 752, 256, fun q => VU .u8 (z.2.2.2.1 q), true⟩ :: ry1 :: L) 4 ay1 ny1 cy1 z.2.2.2.2.1 := by
 refine W.enter 36 Tryd.func21 rfl rfl rfl ?_
 unfold seal_keys at hR
 refine W.seq_k fun _ k2 => W.regionT [(0, false), (1, true), (2, true), (3, false), (4, true)] (by kernel_rfl) ?_
 refine Plan.boxA HST rfl rfl PIn.nil fun b3 w3 hb3 h3 => ?_
 simp only [rngs, Nat.zero_add, Nat.reduceAdd, zca, zna] at h3
 refine Plan.assign_ptr rfl rfl <| Plan.assign_slice rfl rfl ?_
 refine Plan.alloc h3 rfl FSeal.z31 PIn.nil fun b4 w4 hb4 h4 => ?_
 simp only [rngs, Nat.zero_add, Nat.reduceAdd, zca, zna] at h4
 refine Plan.assign_int rfl rfl <| Plan.nil (k2 _ _ ?_); clear k2
 refine W.seq_k fun _ k5 => ?_
 obtain ⟨e_52, b53, hX54, hR054⟩ := hR
 refine W.cutN (fun e w => ∃ y_e_52 : Nat, ∃ y_b53 : List Byte, (e_52 = y_e_52 ∧ b53 = y_b53) ∧ ∃ ab53 : Option Addr, ∃ pb53 : Option Nat, ∃ cb53 : Nat, ∃ Fb53 : Nat → Byte, EnvHas e [(4, .pointer (some ⟨b4, 0, none⟩)), (5, VN y_e_52), (6, .slice ab53 y_b53.length cb53)] ∧ St B w0 (⟨pb53, 0, cb53, fun q => VU .u8 (Fb53 q), true⟩ :: ⟨some b4, 0, 16, fun q => VU .u8 ((fun _ => 0#8) q), true⟩ :: L) w ∧ Ow ab53 pb53 y_b53.length cb53 Fb53 y_b53) ?_ ?_
 ·
  replace hR := hX54
  refine W.regionF FSeal.mixed (.fork [(1, true)] (.line [(0, false), (2, false), (3, false), (4, false), (5, true), (6, true), (7, true), (8, true), (9, true)]) (.fork [(2, false)] (.line [(0, false), (3, false), (4, false), (5, true), (6, true), (7, true), (8, true), (9, true)]) (.line [(3, false), (0, false), (4, false), (5, true), (6, true), (7, true), (8, true), (9, true)]))) (by kernel_rfl) (PlanT.toFork ?_)
  have h55 := h4.drew
  refine Plan.slArrO (lo := 0) (hi := 32) (m := 32) (c := 32) (o' := 0) FSeal.arr23 rfl rfl rfl rfl (by omega) (by omega) (by omega) (by omega) ?_
  obtain ⟨x_59, x_60, hr58, hR⟩ := hR
  refine Plan.forked ?_ ?_
  ·
   refine PlanT.toLine ?_
   refine Plan.makeO (len := 32) (c := 32) h55 FSeal.el24 rfl rfl rfl (by omega) (by omega) (fun _ => EffO.keep PIn.nil) fun b67 w67 hb67 ho67 h67 => ?_
   refine Plan.constBytesO PIn.nil h67 (f := fun q => VU .u8 (lit ([108#8, 101#8, 116#8, 104#8, 101#8, 32#8, 115#8, 101#8, 97#8, 108#8] : List Byte) q)) FSeal.slu24 FSeal.u5 FSeal.sz5 FSeal.zv5 (by decide) (by decide) rfl (fun _ => rfl) (fun _ => rfl) rfl (by kernel_rfl) fun b68 w68 hb68 h68 => ?_
   refine Plan.call (vs := [.slice (some ⟨b67, 0, none⟩) ((List.replicate 32 0#8).length) 32, .slice (some ⟨b3, 0, none⟩) 32 32, .slice (some ⟨b68, 0, none⟩) 10 10, VN 80]) rfl FSeal.call25 rfl (kdf_Derive_ok (iG0 := iG0 + 4) hG0 (iG1 := iG1 + 4) hG1 (by exact (ho67.bx 1 rfl)) (by exact (Bx.arr0 (n := 32) (cc := 32) 3 rfl (by omega) (by omega))) (by exact (Bx.arr0 (n := 10) (cc := 10) 0 rfl (by omega) (by omega))) hr58 h68) ?_
   rintro _ w77 ⟨ay0_72, py0_73, ny0_74, cy0_75, Fy0_76, rfl, h77, hf77_0⟩
   try dsimp only at hf77_0
   obtain rfl := hf77_0.hl
   refine ⟨_, rfl, .inl ⟨PIn.keep PIn.nil h77, ?_⟩⟩
   refine Plan.move_tuple rfl rfl <| Plan.extract_slice rfl rfl rfl <| Plan.extract_int rfl rfl rfl <| Plan.assign_slice rfl rfl <| Plan.assign_int rfl rfl <| Plan.nil ?_
   have h78 := St.pickT (C := [_, _, _, _, _]) h77 [0, 3] (by decide)
   simp only [pick, zfc, zfn, zgz, zgs, zca, zna] at h78
   exact ⟨x_60, x_59, hR, ay0_72, py0_73, cy0_75, Fy0_76, (zer (zer (zer zen))), h78, hf77_0⟩
  ·
   refine PlanT.toFork ?_
   refine Plan.constBuild PIn.nil h55 (f := fun q => VU .u8 (lit ([108#8, 101#8, 116#8, 104#8, 101#8, 32#8, 115#8, 101#8, 97#8, 108#8] : List Byte) q)) FSeal.slu24 FSeal.sz5 FSeal.zv5 (by decide) (by decide) rfl rfl (by kernel_rfl) fun b79 w79 hb79 hk79 h79 => ?_
   refine Plan.forked ?_ ?_
   ·
    refine PlanT.toLine ?_
    refine Plan.makeK (m := 32) (c := 32) PIn.nil h79 FSeal.el24 rfl rfl rfl (by omega) (by omega) fun b80 w80 hb80 hw80 ho80 h80 => ?_
    have hk80_b79 := hw80 _ _ hk79
    refine Plan.constConv PIn.nil h80 hb79 hk80_b79 FSeal.slu24 FSeal.u5 rfl rfl fun w81 h81 => ?_
    refine Plan.call (vs := [.slice (some ⟨b80, 0, none⟩) ((List.replicate 32 0#8).length) 32, .slice (some ⟨b3, 0, none⟩) 32 32, .slice (some ⟨b79, 0, none⟩) 10 10, VN 80]) rfl FSeal.call25 rfl (kdf_Derive_ok (iG0 := iG0 + 4) hG0 (iG1 := iG1 + 4) hG1 (by exact (ho80.bx 0 rfl)) (by exact (Bx.arr0 (n := 32) (cc := 32) 3 rfl (by omega) (by omega))) (by exact (Bx.arr0 (n := 10) (cc := 10) 1 rfl (by omega) (by omega))) hr58 h81) ?_
    rintro _ w90 ⟨ay0_85, py0_86, ny0_87, cy0_88, Fy0_89, rfl, h90, hf90_0⟩
    try dsimp only at hf90_0
    obtain rfl := hf90_0.hl
    refine ⟨_, rfl, .inl ⟨PIn.keep PIn.nil h90, ?_⟩⟩
    refine Plan.move_tuple rfl rfl <| Plan.extract_slice rfl rfl rfl <| Plan.extract_int rfl rfl rfl <| Plan.assign_slice rfl rfl <| Plan.assign_int rfl rfl <| Plan.nil ?_
    have h91 := St.pickT (C := [_, _, _, _, _]) h90 [0, 3] (by decide)
    simp only [pick, zfc, zfn, zgz, zgs, zca, zna] at h91
    exact ⟨x_60, x_59, hR, ay0_85, py0_86, cy0_88, Fy0_89, (zer (zer (zer zen))), h91, hf90_0⟩
   ·
    refine PlanT.toLine ?_
    refine Plan.constConv PIn.nil h79 hb79 hk79 FSeal.slu24 FSeal.u5 rfl rfl fun w92 h92 => ?_
    refine Plan.makeO (len := 32) (c := 32) h92 FSeal.el24 rfl rfl rfl (by omega) (by omega) (fun _ => EffO.keep PIn.nil) fun b93 w93 hb93 ho93 h93 => ?_
    refine Plan.call (vs := [.slice (some ⟨b93, 0, none⟩) ((List.replicate 32 0#8).length) 32, .slice (some ⟨b3, 0, none⟩) 32 32, .slice (some ⟨b79, 0, none⟩) 10 10, VN 80]) rfl FSeal.call25 rfl (kdf_Derive_ok (iG0 := iG0 + 4) hG0 (iG1 := iG1 + 4) hG1 (by exact (ho93.bx 0 rfl)) (by exact (Bx.arr0 (n := 32) (cc := 32) 3 rfl (by omega) (by omega))) (by exact (Bx.arr0 (n := 10) (cc := 10) 1 rfl (by omega) (by omega))) hr58 h93) ?_
    rintro _ w102 ⟨ay0_97, py0_98, ny0_99, cy0_100, Fy0_101, rfl, h102, hf102_0⟩
    try dsimp only at hf102_0
    obtain rfl := hf102_0.hl
    refine ⟨_, rfl, .inl ⟨PIn.keep PIn.nil h102, ?_⟩⟩
    refine Plan.move_tuple rfl rfl <| Plan.extract_slice rfl rfl rfl <| Plan.extract_int rfl rfl rfl <| Plan.assign_slice rfl rfl <| Plan.assign_int rfl rfl <| Plan.nil ?_
    have h103 := St.pickT (C := [_, _, _, _, _]) h102 [0, 3] (by decide)
    simp only [pick, zfc, zfn, zgz, zgs, zca, zna] at h103
    exact ⟨x_60, x_59, hR, ay0_97, py0_98, cy0_100, Fy0_101, (zer (zer (zer zen))), h103, hf102_0⟩
 ·
  rintro ev104 wl104 ⟨y_e_52, y_b53, ⟨hy104_0, hy104_1⟩, ab53, pb53, cb53, Fb53, he104, h104, hb53⟩
  subst hy104_0
  subst hy104_1
  obtain ⟨ev104, rfl⟩ := he104.open
  replace hR := hR054
  refine k5 _ _ ?_; clear k5
  refine W.seq_k fun _ k105 => W.seq_k fun _ k106 => ?_
  refine W.regionT [(0, true), (1, true)] (by kernel_rfl) ?_
  refine Plan.move_int rfl rfl <| Plan.cmpP (a := (((e_52 : Nat) : Int) : Int)) (b := (0 : Int)) (p := e_52 ≠ 0) rfl rfl rfl rfl icmp_neN <| Plan.nil (k106 _ _ ?_); clear k106
  by_cases hc107 : e_52 ≠ 0
  ·
   replace hR := ifT hR hc107
   refine W.condT (congrArg Value.bool (decide_eq_true hc107)) ?_
   refine W.seq_k fun _ k108 => ?_
   refine W.regionD FSeal.mixed [(0, true), (1, true), (2, true), (3, true), (4, false), (5, true)] (by kernel_rfl) ?_
   have h109 := h104.drew
   refine Plan.loadA1 h109 1 rfl rfl rfl FSeal.agg31 <| Plan.move_int rfl rfl <| Plan.assign_ptr rfl rfl <| Plan.assign_slice rfl rfl ?_
   refine Plan.storeA (f' := fun q => VU .u8 ((fun _ => 0#8) q)) h109 1 rfl rfl rfl rfl (fun _ _ => rfl) FSeal.sz31 rfl fun w110 h110 => ?_
   simp only [zca, zna, zsz, zss] at h110
   refine Plan.assign_int rfl rfl <| Plan.nil (k108 _ _ ?_); clear k108
   refine W.ret (thenR_ret (finR_ret ?_))
   have h111 := h110.nilR
   have h112 := St.pickT (C := [_, _, _]) h111 [0] (by decide)
   simp only [pick, zfc, zfn, zgz, zgs, zca, zna] at h112
   subst r
   refine RetOk.mk (.tmp_ptr rfl (.tmp_slice rfl (.agg h110 rfl (.cons 1 rfl .nil) FSeal.agg31 (.tmp_int rfl .nil)))) ?_
   exact ⟨none, none, 0, 0, (fun _ => 0#8), rfl, h112, Ow.nil⟩
  ·
   replace hR := ifF hR hc107
   refine W.condF (congrArg Value.bool (decide_eq_false hc107)) ?_
   refine W.skip ?_
   refine k105 _ _ ?_; clear k105
   refine W.seq_k fun _ k113 => W.seq_k fun _ k114 => ?_
   refine W.regionT [(0, true), (1, true), (2, false), (3, true), (4, true), (5, true), (6, true), (7, true)] (by kernel_rfl) ?_
   refine Plan.move_slice rfl rfl ?_
   obtain ⟨hc115, hR⟩ := hR
   have hm116 := hb53.hc
   refine Plan.slSl (lo := 0) (hi := 32) FSeal.sl24 rfl rfl rfl ⟨_, rfl⟩ (by omega) ?_
   rcases hR with ⟨x_118, hr117, hR⟩ | ⟨x_119, x_120, x_121, x_122, x_123, hr117, hR⟩
   ·
    refine Plan.call (vs := [.slice (if cb53 = 0 then (ab53 : Option Addr) else (ab53 : Option Addr).map (·.add (0 * 1))) (32 - 0) (cb53 - 0)]) rfl FSeal.call19 rfl (aes_New_ok (by exact ((hb53.bx 0 rfl).seg (lo := 0) (hi := 32) hc115)) hr117 h104) ?_
    rintro _ w124 ⟨rfl, h124⟩
    refine ⟨_, rfl, .inl ⟨PIn.keep PIn.nil h124, ?_⟩⟩
    refine Plan.move_tuple rfl rfl <| Plan.extract_ptr rfl rfl rfl <| Plan.extract_int rfl rfl rfl <| Plan.assign_ptr rfl rfl <| Plan.assign_int rfl rfl <| Plan.nil (k114 _ _ ?_); clear k114
    refine W.seq_k fun _ k125 => W.regionT [(0, true), (1, true)] (by kernel_rfl) ?_
    refine Plan.move_int rfl rfl <| Plan.cmpP (a := (((x_118 : Nat) : Int) : Int)) (b := (0 : Int)) (p := x_118 ≠ 0) rfl rfl rfl rfl icmp_neN <| Plan.nil (k125 _ _ ?_); clear k125
    by_cases hc126 : x_118 ≠ 0
    ·
     replace hR := ifT hR hc126
     refine W.condT (congrArg Value.bool (decide_eq_true hc126)) ?_
     refine W.seq_k fun _ k127 => ?_
     refine W.regionD FSeal.mixed [(0, true), (1, true), (2, true), (3, true), (4, false), (5, true)] (by kernel_rfl) ?_
     have h128 := h124.drew
     refine Plan.loadA1 h128 1 rfl rfl rfl FSeal.agg31 <| Plan.move_int rfl rfl <| Plan.assign_ptr rfl rfl <| Plan.assign_slice rfl rfl ?_
     refine Plan.storeA (f' := fun q => VU .u8 ((fun _ => 0#8) q)) h128 1 rfl rfl rfl rfl (fun _ _ => rfl) FSeal.sz31 rfl fun w129 h129 => ?_
     simp only [zca, zna, zsz, zss] at h129
     refine Plan.assign_int rfl rfl <| Plan.nil (k127 _ _ ?_); clear k127
     refine W.ret (thenR_ret (finR_ret ?_))
     have h130 := h129.nilR
     have h131 := St.pickT (C := [_, _, _]) h130 [0] (by decide)
     simp only [pick, zfc, zfn, zgz, zgs, zca, zna] at h131
     subst r
     refine RetOk.mk (.tmp_ptr rfl (.tmp_slice rfl (.agg h129 rfl (.cons 1 rfl .nil) FSeal.agg31 (.tmp_int rfl .nil)))) ?_
     exact ⟨none, none, 0, 0, (fun _ => 0#8), rfl, h131, Ow.nil⟩
    ·
     replace hR := ifF hR hc126
     refine W.condF (congrArg Value.bool (decide_eq_false hc126)) ?_
     refine W.skip ?_
     refine k113 _ _ ?_; clear k113
     refine W.seq_k fun _ k132 => ?_
     refine W.regionD FSeal.mixed [(0, true), (1, true), (2, true), (3, true), (4, true), (5, true), (6, true), (7, true), (8, true), (9, false), (10, true)] (by kernel_rfl) ?_
     have h133 := h124.drew
     refine Plan.move_ptr rfl rfl <| Plan.move_slice rfl rfl ?_
     obtain ⟨hc134, hR⟩ := hR
     have hm135 := hb53.hc
     refine Plan.slSl (lo := 32) (hi := 64) FSeal.sl24 rfl rfl ⟨_, rfl⟩ ⟨_, rfl⟩ (by omega) <| Plan.move_slice rfl rfl ?_
     obtain ⟨hc136, hR⟩ := hR
     have hm137 := hb53.hc
     refine Plan.slSl (lo := 64) (hi := b53.length) FSeal.sl24 rfl rfl ⟨_, rfl⟩ rfl (by omega) ?_
     obtain ⟨hc138, hR⟩ := hR
     refine Plan.sl2arrVS h133 ((hb53.bx 0 rfl).seg (lo := 64) (hi := b53.length) hc136) FSeal.arru31 rfl rfl (by omega) ?_
     refine Plan.loadAV h133 ((hb53.bx 0 rfl).seg (lo := 64) (hi := b53.length) hc136) rfl rfl (by omega) FSeal.agg31 fun r139 hr139 => ?_
     refine Plan.assign_ptr rfl rfl <| Plan.assign_slice rfl rfl ?_
     refine Plan.storeA (f' := fun q => VU .u8 ((lit (seg b53 64 b53.length)) q)) h133 1 rfl rfl rfl rfl (fun _ _ => rfl) FSeal.sz31 rfl fun w140 h140 => ?_
     simp only [zca, zna, zsz, zss] at h140
     refine Plan.assign_int rfl rfl <| Plan.nil (k132 _ _ ?_); clear k132
     refine W.ret (finR_ret ?_)
     have h141 := St.pickT (C := [_, _]) h140 [0] (by decide)
     simp only [pick, zfc, zfn, zgz, zgs, zca, zna] at h141
     subst r
     refine RetOk.mk (.tmp_ptr rfl (.tmp_slice rfl (.agg h140 rfl (.cons 1 rfl .nil) FSeal.agg31 (.tmp_int rfl .nil)))) ?_
     exact ⟨⟨pb53, 0, cb53, fun q => VU .u8 (Fb53 q), true⟩, (if cb53 = 32 then (ab53 : Option Addr) else (ab53 : Option Addr).map (·.add (32 * 1))), (64 - 32), (cb53 - 32), rfl, h141, ((hb53.bx 0 rfl).seg (lo := 32) (hi := 64) hc134)⟩
   ·
    refine Plan.call (vs := [.slice (if cb53 = 0 then (ab53 : Option Addr) else (ab53 : Option Addr).map (·.add (0 * 1))) (32 - 0) (cb53 - 0)]) rfl FSeal.call19 rfl (aes_New_ok (by exact ((hb53.bx 0 rfl).seg (lo := 0) (hi := 32) hc115)) hr117 h104) ?_
    rintro _ w143 ⟨b0_142, rfl, h143⟩
    refine ⟨_, rfl, .inl ⟨PIn.keep PIn.nil h143, ?_⟩⟩
    refine Plan.move_tuple rfl rfl <| Plan.extract_ptr rfl rfl rfl <| Plan.extract_int rfl rfl rfl <| Plan.assign_ptr rfl rfl <| Plan.assign_int rfl rfl <| Plan.nil (k114 _ _ ?_); clear k114
    refine W.seq_k fun _ k144 => W.regionT [(0, true), (1, true)] (by kernel_rfl) ?_
    refine Plan.move_int rfl rfl <| Plan.cmpP (a := (((x_123 : Nat) : Int) : Int)) (b := (0 : Int)) (p := x_123 ≠ 0) rfl rfl rfl rfl icmp_neN <| Plan.nil (k144 _ _ ?_); clear k144
    by_cases hc145 : x_123 ≠ 0
    ·
     replace hR := ifT hR hc145
     refine W.condT (congrArg Value.bool (decide_eq_true hc145)) ?_
     refine W.seq_k fun _ k146 => ?_
     refine W.regionD FSeal.mixed [(0, true), (1, true), (2, true), (3, true), (4, false), (5, true)] (by kernel_rfl) ?_
     have h147 := h143.drew
     refine Plan.loadA1 h147 5 rfl rfl rfl FSeal.agg31 <| Plan.move_int rfl rfl <| Plan.assign_ptr rfl rfl <| Plan.assign_slice rfl rfl ?_
     refine Plan.storeA (f' := fun q => VU .u8 ((fun _ => 0#8) q)) h147 5 rfl rfl rfl rfl (fun _ _ => rfl) FSeal.sz31 rfl fun w148 h148 => ?_
     simp only [zca, zna, zsz, zss] at h148
     refine Plan.assign_int rfl rfl <| Plan.nil (k146 _ _ ?_); clear k146
     refine W.ret (thenR_ret (finR_ret ?_))
     have h149 := h148.nilR
     have h150 := St.pickT (C := [_, _, _, _, _, _, _]) h149 [0] (by decide)
     simp only [pick, zfc, zfn, zgz, zgs, zca, zna] at h150
     subst r
     refine RetOk.mk (.tmp_ptr rfl (.tmp_slice rfl (.agg h148 rfl (.cons 5 rfl .nil) FSeal.agg31 (.tmp_int rfl .nil)))) ?_
     exact ⟨none, none, 0, 0, (fun _ => 0#8), rfl, h150, Ow.nil⟩
    ·
     replace hR := ifF hR hc145
     refine W.condF (congrArg Value.bool (decide_eq_false hc145)) ?_
     refine W.skip ?_
     refine k113 _ _ ?_; clear k113
     refine W.seq_k fun _ k151 => ?_
     refine W.regionD FSeal.mixed [(0, true), (1, true), (2, true), (3, true), (4, true), (5, true), (6, true), (7, true), (8, true), (9, false), (10, true)] (by kernel_rfl) ?_
     have h152 := h143.drew
     refine Plan.move_ptr rfl rfl <| Plan.move_slice rfl rfl ?_
     obtain ⟨hc153, hR⟩ := hR
     have hm154 := hb53.hc
     refine Plan.slSl (lo := 32) (hi := 64) FSeal.sl24 rfl rfl ⟨_, rfl⟩ ⟨_, rfl⟩ (by omega) <| Plan.move_slice rfl rfl ?_
     obtain ⟨hc155, hR⟩ := hR
     have hm156 := hb53.hc
     refine Plan.slSl (lo := 64) (hi := b53.length) FSeal.sl24 rfl rfl ⟨_, rfl⟩ rfl (by omega) ?_
     obtain ⟨hc157, hR⟩ := hR
     refine Plan.sl2arrVS h152 ((hb53.bx 4 rfl).seg (lo := 64) (hi := b53.length) hc155) FSeal.arru31 rfl rfl (by omega) ?_
     refine Plan.loadAV h152 ((hb53.bx 4 rfl).seg (lo := 64) (hi := b53.length) hc155) rfl rfl (by omega) FSeal.agg31 fun r158 hr158 => ?_
     refine Plan.assign_ptr rfl rfl <| Plan.assign_slice rfl rfl ?_
     refine Plan.storeA (f' := fun q => VU .u8 ((lit (seg b53 64 b53.length)) q)) h152 5 rfl rfl rfl rfl (fun _ _ => rfl) FSeal.sz31 rfl fun w159 h159 => ?_
     simp only [zca, zna, zsz, zss] at h159
     refine Plan.assign_int rfl rfl <| Plan.nil (k151 _ _ ?_); clear k151
     refine W.ret (finR_ret ?_)
     have h160 := St.pickT (C := [_, _, _, _, _, _]) h159 [0, 1, 2, 3, 4] (by decide)
     simp only [pick, zfc, zfn, zgz, zgs, zca, zna] at h160
     subst r
     refine RetOk.mk (.tmp_ptr rfl (.tmp_slice rfl (.agg h159 rfl (.cons 5 rfl .nil) FSeal.agg31 (.tmp_int rfl .nil)))) ?_
     exact ⟨b0_142, ⟨pb53, 0, cb53, fun q => VU .u8 (Fb53 q), true⟩, (if cb53 = 32 then (ab53 : Option Addr) else (ab53 : Option Addr).map (·.add (32 * 1))), (64 - 32), (cb53 - 32), rfl, h160, ((hb53.bx 4 rfl).seg (lo := 32) (hi := 64) hc153)⟩
theorem seal_tagged_ok {B : Nat} {w0 w : World} {L : List Rg} {iG0 : Nat} (hG0 : L[iG0]? = some ⟨some 0, 0, 8, fun q => VU .u32 (H256 q), false⟩) {iG1 : Nat} (hG1 : L[iG1]? = some ⟨some 1, 0, 64, fun q => VU .u32 (K256 q), false⟩) {key1 : List Byte} {akey1 : Option Addr} {nkey1 ckey1 ikey1 : Nat} (hkey1 : Bx L ikey1 akey1 nkey1 ckey1 key1) {data2 : List Byte} {adata2 : Option Addr} {ndata2 cdata2 idata2 : Nat} (hdata2 : Bx L idata2 adata2 ndata2 cdata2 data2) {c3 : List Byte} {ac3 : Option Addr} {nc3 cc3 ic3 : Nat} (hc3 : Bx L ic3 ac3 nc3 cc3 c3) {r : (List Byte)} (hR : seal_tagged key1 data2 c3 r) (HST : St B w0 (L) w) :
  Calls Tryd.prog 23 #[.slice akey1 nkey1 ckey1, .slice adata2 ndata2 cdata2, .slice ac3 nc3 cc3] w fun e w' => ∃ ay0 : Option Addr, ∃ py0 : Option Nat, ∃ ny0 : Nat, ∃ cy0 : Nat, ∃ Fy0 : Nat → Byte, e = .returned (.slice ay0 ny0 cy0) ∧ St B w0 (⟨py0, 0, cy0, fun q => VU .u8 (Fy0 q), true⟩ :: L) w' ∧ Ow ay0 py0 ny0 cy0 Fy0 r := by
 refine W.enter 35 Tryd.func23 rfl rfl rfl ?_
 unfold seal_tagged at hR
 have ekey1 := hkey1.hl; subst ekey1
 have edata2 := hdata2.hl; subst edata2
 have ec3 := hc3.hl; subst ec3
 refine W.seq_k fun _ k4 => W.regionT [(0, true)] (by kernel_rfl) ?_
 refine Plan.assign_slice rfl rfl <| Plan.nil (k4 _ _ ?_); clear k4
 refine W.seq_k fun _ k5 => W.regionT [(0, false), (1, true)] (by kernel_rfl) ?_
 refine Plan.makeO (len := 8) (c := 8) HST FSeal.el24 rfl rfl rfl (by omega) (by omega) (fun _ => EffO.keep PIn.nil) fun b6 w6 hb6 ho6 h6 => ?_
 refine Plan.assign_slice rfl rfl <| Plan.nil (k5 _ _ ?_); clear k5
 refine W.seq_k fun _ k7 => W.seq_k fun _ k8 => ?_
 refine W.regionT [(0, true), (1, true), (2, true)] (by kernel_rfl) ?_
 refine Plan.move_slice rfl rfl <| Plan.len FSeal.isl24 rfl rfl <| Plan.move_int rfl rfl <| Plan.nil (k8 _ _ ?_); clear k8
 obtain ⟨n_32, hI33, hR033⟩ := hR
 refine W.cutN (fun e w => ∃ y_n_32 : List Byte, n_32 = y_n_32 ∧ ∃ an_32 : Option Addr, ∃ pn_32 : Option Nat, ∃ cn_32 : Nat, ∃ Fn_32 : Nat → Byte, EnvHas e [(0, .slice akey1 key1.length ckey1), (1, .slice adata2 data2.length cdata2), (2, .slice ac3 c3.length cc3), (7, .slice an_32 ((List.replicate 8 0#8).length) cn_32)] ∧ St B w0 (⟨pn_32, 0, cn_32, fun q => VU .u8 (Fn_32 q), true⟩ :: L) w ∧ Ow an_32 pn_32 ((List.replicate 8 0#8).length) cn_32 Fn_32 y_n_32) ?_ ?_
 ·
  refine W.block ?_
  refine W.iter hI33 (fun (s33 : ((List Byte) × Nat)) e w => ∃ an_30 : Option Addr, ∃ pn_30 : Option Nat, ∃ cn_30 : Nat, ∃ Fn_30 : Nat → Byte, EnvHas e [(0, .slice akey1 key1.length ckey1), (1, .slice adata2 data2.length cdata2), (2, .slice ac3 c3.length cc3), (7, .slice an_30 ((List.replicate 8 0#8).length) cn_30), (12, VN ((List.replicate 8 0#8).length)), (13, VN s33.2)] ∧ St B w0 (⟨pn_30, 0, cn_30, fun q => VU .u8 (Fn_30 q), true⟩ :: L) w ∧ Ow an_30 pn_30 ((List.replicate 8 0#8).length) cn_30 Fn_30 s33.1) ⟨some ⟨b6, 0, none⟩, some b6, 8, (fun _ => 0#8), (zer (zer (zer (zer (zer (zer zen)))))), h6, ho6⟩ ?_
  rintro ⟨n_30, t31⟩ o33 hR hx33 ev34 wl34 ⟨an_30, pn_30, cn_30, Fn_30, he34, h34, hn_30⟩
  obtain ⟨ev34, rfl⟩ := he34.open
  unfold seal_tagged_l0 at hR
  refine W.seq_k fun _ k35 => W.regionT [(0, true)] (by kernel_rfl) ?_
  refine Plan.cmpP (a := (((t31 : Nat) : Int) : Int)) (b := ((((List.replicate 8 0#8).length : Nat) : Int) : Int)) (p := t31 < (List.replicate 8 0#8).length) rfl rfl rfl rfl icmp_ltN <| Plan.nil (k35 _ _ ?_); clear k35
  refine W.seq_k fun _ k36 => ?_
  by_cases hc37 : t31 < (List.replicate 8 0#8).length
  ·
   replace hR := ifT hR hc37
   refine W.condT (congrArg Value.bool (decide_eq_true hc37)) ?_
   refine W.skip ?_
   refine k36 _ _ ?_; clear k36
   refine W.seq_k fun _ k38 => ?_
   refine W.block ?_
   refine W.seq_k fun _ k39 => W.regionT [(0, true), (1, true)] (by kernel_rfl) ?_
   refine Plan.move_int rfl rfl <| Plan.assign_int rfl rfl <| Plan.nil (k39 _ _ ?_); clear k39
   refine W.regionT [(0, true), (1, true), (2, true), (3, true), (4, true), (5, true), (6, true), (7, true), (8, true), (9, true), (10, true), (11, false)] (by kernel_rfl) ?_
   refine Plan.move_slice rfl rfl <| Plan.move_int rfl rfl <| Plan.move_slice rfl rfl <| Plan.len FSeal.isl24 rfl rfl <| Plan.convNU .u64 (a := data2.length) FSeal.u73 FSeal.some3 rfl rfl <| Plan.move_int rfl rfl ?_
   obtain ⟨hc40, hR⟩ := hR
   refine Plan.mulN (a := 8) (b := t31) rfl rfl rfl (by omega) ?_
   obtain ⟨hc41, hR⟩ := hR
   refine Plan.subI (a := 56) (b := (((8 * t31) : Nat) : Int)) rfl rfl rfl (by omega) ?_
   obtain ⟨hc42, hR⟩ := hR
   refine Plan.shrU .u64 (X := (BitVec.ofNat 64 data2.length)) (c := (56 - (((8 * t31) : Nat) : Int)).toNat) rfl rfl (congrArg (Value.int .i64) (Int.toNat_of_nonneg hc42).symm) <| Plan.convUU .u8 (X := ((BitVec.ofNat 64 data2.length) >>> ((56 - (((8 * t31) : Nat) : Int)).toNat))) FSeal.u5 FSeal.some73 rfl rfl ?_
   obtain ⟨hc43, hR⟩ := hR
   refine Plan.idxVS (j := t31) h34 (hn_30.bx 0 rfl) FSeal.sl24 rfl rfl rfl hc43 ?_
   refine Plan.storeO (j := t31) (Y := (((BitVec.ofNat 64 data2.length) >>> ((56 - (((8 * t31) : Nat) : Int)).toNat)).setWidth 8)) h34 0 hn_30 rfl rfl rfl rfl hc43 FSeal.sz5 rfl fun w44 F44 ho44 h44 => ?_
   simp only [zca, zna, zsz, zss] at h44
   have e44 : (n_30.set t31 (((BitVec.ofNat 64 data2.length) >>> ((56 - (((8 * t31) : Nat) : Int)).toNat)).setWidth 8)).length = n_30.length := List.length_set
   refine Plan.nil ?_
   refine blockR_norm ?_
   refine k38 _ _ ?_; clear k38
   refine W.regionT [(0, true), (1, true)] (by kernel_rfl) ?_
   obtain ⟨hc45, hR⟩ := hR
   refine Plan.addN (a := t31) (b := 1) rfl rfl rfl (by omega) <| Plan.move_int rfl rfl <| Plan.nil ?_
   exact iterR_norm ⟨_, hR, an_30, pn_30, cn_30, F44, (zer (zer (zer (zer (zer (zer zen)))))), h44, (show Ow _ _ ((List.replicate 8 0#8).length) _ _ _ from ho44)⟩
  ·
   replace hR := ifF hR hc37
   refine W.condF (congrArg Value.bool (decide_eq_false hc37)) ?_
   refine W.exit (thenR_exit (iterR_exit (blockR_here ?_)))
   exact ⟨n_30, (hx33 _ hR).symm, an_30, pn_30, cn_30, Fn_30, (zer (zer (zer (zer zen)))), h34, hn_30⟩
 ·
  rintro ev46 wl46 ⟨y_n_32, hy46, an_32, pn_32, cn_32, Fn_32, he46, h46, hn_32⟩
  obtain ⟨ev46, rfl⟩ := he46.open
  subst hy46
  replace hR := hR033
  refine k7 _ _ ?_; clear k7
  refine W.seq_k fun _ k47 => W.regionT [(0, true), (1, true), (2, true), (3, true), (4, false), (5, false), (6, false), (7, false)] (by kernel_rfl) ?_
  refine Plan.move_slice rfl rfl <| Plan.move_slice rfl rfl <| Plan.move_slice rfl rfl <| Plan.move_slice rfl rfl ?_
  refine Plan.buildSlice h46 (ps := [(3, fun i => .slice ((fun i => ([adata2, ac3, an_32] : List (Option Addr)).getD i none) i) ((fun i => ([data2.length, c3.length, (List.replicate 8 0#8).length] : List Nat).getD i 0) i) ((fun i => ([cdata2, cc3, cn_32] : List Nat).getD i 0) i))]) FSeal.slu40 FSeal.sz24 FSeal.zv24 (by decide) (by decide) rfl rfl rfl (EffO.keep PIn.nil) fun b49 w49 hb49 h49 => ?_
  simp only [rngs, List.cons_append, List.nil_append] at h49
  obtain ⟨x_51, hr50, hR⟩ := hR
  refine Plan.call (vs := [.slice akey1 key1.length ckey1, .slice (some ⟨b49, 0, none⟩) 3 3]) rfl FSeal.call26 rfl (kdf_Mac_ok (iG0 := iG0 + 2) hG0 (iG1 := iG1 + 2) hG1 (hkey1.app [_, _]) (by exact (Bss.of 0 rfl rfl (fun i hi => match i, hi with | 0, _ => ⟨_, (hdata2.app [_, _])⟩ | 1, _ => ⟨_, (hc3.app [_, _])⟩ | 2, _ => ⟨_, (hn_32.bx 1 rfl)⟩ | k + 3, hk => absurd hk (by omega)))) hr50 h49) ?_
  rintro _ w52 ⟨rfl, h52⟩
  refine ⟨_, rfl, .inl ⟨PIn.keep PIn.nil h52, ?_⟩⟩
  refine Plan.alloc h52 rfl FSeal.z58 PIn.nil fun b53 w53 hb53 h53 => ?_
  simp only [rngs, Nat.zero_add, Nat.reduceAdd, zca, zna] at h53
  refine Plan.storeA (f' := fun q => VU .u8 (x_51 q)) h53 0 rfl rfl rfl rfl (fun _ _ => rfl) FSeal.sz58 rfl fun w54 h54 => ?_
  simp only [zca, zna, zsz, zss] at h54
  refine Plan.nil (k47 _ _ ?_); clear k47
  refine W.seq_k fun _ k55 => W.regionT [(0, true), (1, true)] (by kernel_rfl) ?_
  refine Plan.slArrO (lo := 0) (hi := 32) (m := 32) (c := 32) (o' := 0) FSeal.arr58 rfl rfl rfl rfl (by omega) (by omega) (by omega) (by omega) <| Plan.assign_slice rfl rfl <| Plan.nil (k55 _ _ ?_); clear k55
  refine W.ret (finR_ret ?_)
  have h56 := St.pickT (C := [_, _, _]) h54 [0] (by decide)
  simp only [pick, zfc, zfn, zgz, zgs, zca, zna] at h56
  subst r
  refine RetOk.mk (.tmp_slice rfl .nil) ?_
  exact ⟨some ⟨b53, 0, none⟩, some b53, 32, 32, x_51, rfl, h56, Ow.arr⟩
theorem seal_Seal_ok {B : Nat} {w0 w : World} {L : List Rg} {iG0 : Nat} (hG0 : L[iG0]? = some ⟨some 0, 0, 8, fun q => VU .u32 (H256 q), false⟩) {iG1 : Nat} (hG1 : L[iG1]? = some ⟨some 1, 0, 64, fun q => VU .u32 (K256 q), false⟩) {key1 : Nat → BitVec 8} {data2 : List Byte} {adata2 : Option Addr} {ndata2 cdata2 idata2 : Nat} (hdata2 : Bx L idata2 adata2 ndata2 cdata2 data2) {text3 : List Byte} {atext3 : Option Addr} {ntext3 ctext3 itext3 : Nat} (htext3 : Bx L itext3 atext3 ntext3 ctext3 text3) {r : ((List Byte) × Nat)} (hR : seal_Seal key1 data2 text3 r) (HST : St B w0 (L) w) :
  Calls Tryd.prog 10 #[AG [(32, fun q => VU .u8 (key1 q))], .slice adata2 ndata2 cdata2, .slice atext3 ntext3 ctext3] w fun e w' => ∃ ay0 : Option Addr, ∃ py0 : Option Nat, ∃ ny0 : Nat, ∃ cy0 : Nat, ∃ Fy0 : Nat → Byte, e = .returned (.tuple #[.slice ay0 ny0 cy0, VN r.2]) ∧ St B w0 (⟨py0, 0, cy0, fun q => VU .u8 (Fy0 q), true⟩ :: L) w' ∧ Ow ay0 py0 ny0 cy0 Fy0 r.1 := by
 refine W.enter 42 Tryd.func10 rfl rfl rfl ?_
 unfold seal_Seal at hR
 have edata2 := hdata2.hl; subst edata2
 have etext3 := htext3.hl; subst etext3
 refine W.seq_k fun _ k4 => W.regionT [(0, false), (1, true), (2, true)] (by kernel_rfl) ?_
 refine Plan.boxA HST rfl rfl PIn.nil fun b5 w5 hb5 h5 => ?_
 simp only [rngs, Nat.zero_add, Nat.reduceAdd, zca, zna] at h5
 refine Plan.assign_slice rfl rfl <| Plan.assign_int rfl rfl <| Plan.nil (k4 _ _ ?_); clear k4
 refine W.seq_k fun _ k6 => W.seq_k fun _ k12 => ?_
 refine W.regionT [(0, true), (1, true), (2, true), (3, true), (4, true), (5, true), (6, true), (7, true)] (by kernel_rfl) ?_
 refine Plan.move_slice rfl rfl <| Plan.len FSeal.isl24 rfl rfl ?_
 by_cases hc13 : 512 < text3.length
 ·
  replace hR := ifT hR hc13
  refine Plan.cmpV (a := (((text3.length : Nat) : Int) : Int)) (b := (512 : Int)) (p := 512 < text3.length) (v := true) rfl rfl rfl rfl icmp_gtN (decide_eq_true hc13) <| Plan.move_bool rfl rfl <| Plan.passed rfl <| Plan.passed rfl <| Plan.passed rfl <| Plan.pickTb rfl rfl rfl <| Plan.nil (k12 _ _ ?_); clear k12
  refine W.condT rfl ?_
  refine W.seq_k fun _ k14 => W.regionT [(0, true), (1, true)] (by kernel_rfl) ?_
  refine Plan.assign_slice rfl rfl <| Plan.assign_int rfl rfl <| Plan.nil (k14 _ _ ?_); clear k14
  refine W.ret (thenR_ret (finR_ret ?_))
  have h15 := h5.nilR
  have h16 := St.pickT (C := [_, _]) h15 [0] (by decide)
  simp only [pick, zfc, zfn, zgz, zgs, zca, zna] at h16
  subst r
  refine RetOk.mk (.tmp_slice rfl (.tmp_int rfl .nil)) ?_
  exact ⟨none, none, 0, 0, (fun _ => 0#8), rfl, h16, Ow.nil⟩
 ·
  replace hR := ifF hR hc13
  refine Plan.cmpV (a := (((text3.length : Nat) : Int) : Int)) (b := (512 : Int)) (p := 512 < text3.length) (v := false) rfl rfl rfl rfl icmp_gtN (decide_eq_false hc13) <| Plan.move_bool rfl rfl <| Plan.move_slice rfl rfl <| Plan.len FSeal.isl24 rfl rfl <| Plan.cmpP (a := (((data2.length : Nat) : Int) : Int)) (b := (65535 : Int)) (p := 65535 < data2.length) rfl rfl rfl rfl icmp_gtN <| Plan.pickFb rfl rfl rfl <| Plan.nil (k12 _ _ ?_); clear k12
  by_cases hc17 : 65535 < data2.length
  ·
   replace hR := ifT hR hc17
   refine W.condT (congrArg Value.bool (decide_eq_true hc17)) ?_
   refine W.seq_k fun _ k18 => W.regionT [(0, true), (1, true)] (by kernel_rfl) ?_
   refine Plan.assign_slice rfl rfl <| Plan.assign_int rfl rfl <| Plan.nil (k18 _ _ ?_); clear k18
   refine W.ret (thenR_ret (finR_ret ?_))
   have h19 := h5.nilR
   have h20 := St.pickT (C := [_, _]) h19 [0] (by decide)
   simp only [pick, zfc, zfn, zgz, zgs, zca, zna] at h20
   subst r
   refine RetOk.mk (.tmp_slice rfl (.tmp_int rfl .nil)) ?_
   exact ⟨none, none, 0, 0, (fun _ => 0#8), rfl, h20, Ow.nil⟩
  ·
   replace hR := ifF hR hc17
   refine W.condF (congrArg Value.bool (decide_eq_false hc17)) ?_
   refine W.skip ?_
   refine k6 _ _ ?_; clear k6
   refine W.seq_k fun _ k21 => W.regionT [(0, true), (1, false), (2, true), (3, true), (4, true), (5, true), (6, true), (7, false), (8, true), (9, true), (10, false), (11, true)] (by kernel_rfl) ?_
   refine Plan.loadA1 h5 0 rfl rfl rfl FSeal.agg23 ?_
   rcases hR with ⟨x_23, x_24, x_25, hr22, hR⟩ | ⟨x_26, x_27, x_28, hr22, hR⟩ | ⟨x_29, x_30, x_31, x_32, x_33, x_34, x_35, hr22, hR⟩
   ·
    refine Plan.call (vs := [AG [(32, fun q => VU .u8 (key1 q))]]) rfl FSeal.call21 rfl (seal_keys_ok (iG0 := iG0 + 1) hG0 (iG1 := iG1 + 1) hG1 hr22 h5) ?_
    rintro _ w41 ⟨ay1_36, py1_37, ny1_38, cy1_39, Fy1_40, rfl, h41, hf41_0⟩
    try dsimp only at hf41_0
    obtain rfl := hf41_0.hl
    refine ⟨_, rfl, .inr ⟨rfl, ?_⟩⟩
    refine Plan.move_tuple rfl rfl <| Plan.extract_ptr rfl rfl rfl <| Plan.extract_slice rfl rfl rfl <| Plan.extract_agg rfl rfl rfl <| Plan.extract_int rfl rfl rfl ?_
    refine Plan.alloc h41 rfl FSeal.z31 PIn.nil fun b42 w42 hb42 h42 => ?_
    simp only [rngs, Nat.zero_add, Nat.reduceAdd, zca, zna] at h42
    refine Plan.assign_ptr rfl rfl <| Plan.assign_slice rfl rfl ?_
    refine Plan.storeA (f' := fun q => VU .u8 (x_24 q)) h42 0 rfl rfl rfl rfl (fun _ _ => rfl) FSeal.sz31 rfl fun w43 h43 => ?_
    simp only [zca, zna, zsz, zss] at h43
    refine Plan.assign_int rfl rfl <| Plan.nil (k21 _ _ ?_); clear k21
    refine W.seq_k fun _ k44 => W.seq_k fun _ k45 => ?_
    refine W.regionT [(0, true), (1, true)] (by kernel_rfl) ?_
    refine Plan.move_int rfl rfl <| Plan.cmpP (a := (((x_25 : Nat) : Int) : Int)) (b := (0 : Int)) (p := x_25 ≠ 0) rfl rfl rfl rfl icmp_neN <| Plan.nil (k45 _ _ ?_); clear k45
    by_cases hc46 : x_25 ≠ 0
    ·
     replace hR := ifT hR hc46
     refine W.condT (congrArg Value.bool (decide_eq_true hc46)) ?_
     refine W.seq_k fun _ k47 => W.regionT [(0, true), (1, true), (2, true)] (by kernel_rfl) ?_
     refine Plan.move_int rfl rfl <| Plan.assign_slice rfl rfl <| Plan.assign_int rfl rfl <| Plan.nil (k47 _ _ ?_); clear k47
     refine W.ret (thenR_ret (finR_ret ?_))
     have h48 := h43.nilR
     have h49 := St.pickT (C := [_, _, _, _]) h48 [0] (by decide)
     simp only [pick, zfc, zfn, zgz, zgs, zca, zna] at h49
     subst r
     refine RetOk.mk (.tmp_slice rfl (.tmp_int rfl .nil)) ?_
     exact ⟨none, none, 0, 0, (fun _ => 0#8), rfl, h49, Ow.nil⟩
    ·
     replace hR := ifF hR hc46
     refine W.condF (congrArg Value.bool (decide_eq_false hc46)) ?_
     refine W.skip ?_
     refine k44 _ _ ?_; clear k44
     refine W.seq_k fun _ k50 => W.regionT [(0, true), (1, true), (2, true), (3, false), (4, true)] (by kernel_rfl) ?_
     refine Plan.move_ptr rfl rfl <| Plan.loadA1 h43 0 rfl rfl rfl FSeal.agg31 <| Plan.move_slice rfl rfl ?_
     exact hR.elim
   ·
    refine Plan.call (vs := [AG [(32, fun q => VU .u8 (key1 q))]]) rfl FSeal.call21 rfl (seal_keys_ok (iG0 := iG0 + 1) hG0 (iG1 := iG1 + 1) hG1 hr22 h5) ?_
    rintro _ w55 ⟨ry1_51, ay1_52, ny1_53, cy1_54, rfl, h55, hf55_0⟩
    try dsimp only at hf55_0
    obtain rfl := hf55_0.hl
    refine ⟨_, rfl, .inr ⟨rfl, ?_⟩⟩
    refine Plan.move_tuple rfl rfl <| Plan.extract_ptr rfl rfl rfl <| Plan.extract_slice rfl rfl rfl <| Plan.extract_agg rfl rfl rfl <| Plan.extract_int rfl rfl rfl ?_
    refine Plan.alloc h55 rfl FSeal.z31 PIn.nil fun b56 w56 hb56 h56 => ?_
    simp only [rngs, Nat.zero_add, Nat.reduceAdd, zca, zna] at h56
    refine Plan.assign_ptr rfl rfl <| Plan.assign_slice rfl rfl ?_
    refine Plan.storeA (f' := fun q => VU .u8 (x_27 q)) h56 0 rfl rfl rfl rfl (fun _ _ => rfl) FSeal.sz31 rfl fun w57 h57 => ?_
    simp only [zca, zna, zsz, zss] at h57
    refine Plan.assign_int rfl rfl <| Plan.nil (k21 _ _ ?_); clear k21
    refine W.seq_k fun _ k58 => W.seq_k fun _ k59 => ?_
    refine W.regionT [(0, true), (1, true)] (by kernel_rfl) ?_
    refine Plan.move_int rfl rfl <| Plan.cmpP (a := (((x_28 : Nat) : Int) : Int)) (b := (0 : Int)) (p := x_28 ≠ 0) rfl rfl rfl rfl icmp_neN <| Plan.nil (k59 _ _ ?_); clear k59
    by_cases hc60 : x_28 ≠ 0
    ·
     replace hR := ifT hR hc60
     refine W.condT (congrArg Value.bool (decide_eq_true hc60)) ?_
     refine W.seq_k fun _ k61 => W.regionT [(0, true), (1, true), (2, true)] (by kernel_rfl) ?_
     refine Plan.move_int rfl rfl <| Plan.assign_slice rfl rfl <| Plan.assign_int rfl rfl <| Plan.nil (k61 _ _ ?_); clear k61
     refine W.ret (thenR_ret (finR_ret ?_))
     have h62 := h57.nilR
     have h63 := St.pickT (C := [_, _, _, _]) h62 [0] (by decide)
     simp only [pick, zfc, zfn, zgz, zgs, zca, zna] at h63
     subst r
     refine RetOk.mk (.tmp_slice rfl (.tmp_int rfl .nil)) ?_
     exact ⟨none, none, 0, 0, (fun _ => 0#8), rfl, h63, Ow.nil⟩
    ·
     replace hR := ifF hR hc60
     refine W.condF (congrArg Value.bool (decide_eq_false hc60)) ?_
     refine W.skip ?_
     refine k58 _ _ ?_; clear k58
     refine W.seq_k fun _ k64 => W.regionT [(0, true), (1, true), (2, true), (3, false), (4, true)] (by kernel_rfl) ?_
     refine Plan.move_ptr rfl rfl <| Plan.loadA1 h57 0 rfl rfl rfl FSeal.agg31 <| Plan.move_slice rfl rfl ?_
     exact hR.elim
   ·
    refine Plan.call (vs := [AG [(32, fun q => VU .u8 (key1 q))]]) rfl FSeal.call21 rfl (seal_keys_ok (iG0 := iG0 + 1) hG0 (iG1 := iG1 + 1) hG1 hr22 h5) ?_
    rintro _ w70 ⟨b0_65, ry1_66, ay1_67, ny1_68, cy1_69, rfl, h70, hf70_0⟩
    try dsimp only at hf70_0
    obtain rfl := hf70_0.hl
    refine ⟨_, rfl, .inr ⟨rfl, ?_⟩⟩
    refine Plan.move_tuple rfl rfl <| Plan.extract_ptr rfl rfl rfl <| Plan.extract_slice rfl rfl rfl <| Plan.extract_agg rfl rfl rfl <| Plan.extract_int rfl rfl rfl ?_
    refine Plan.alloc h70 rfl FSeal.z31 PIn.nil fun b71 w71 hb71 h71 => ?_
    simp only [rngs, Nat.zero_add, Nat.reduceAdd, zca, zna] at h71
    refine Plan.assign_ptr rfl rfl <| Plan.assign_slice rfl rfl ?_
    refine Plan.storeA (f' := fun q => VU .u8 (x_34 q)) h71 0 rfl rfl rfl rfl (fun _ _ => rfl) FSeal.sz31 rfl fun w72 h72 => ?_
    simp only [zca, zna, zsz, zss] at h72
    refine Plan.assign_int rfl rfl <| Plan.nil (k21 _ _ ?_); clear k21
    refine W.seq_k fun _ k73 => W.seq_k fun _ k74 => ?_
    refine W.regionT [(0, true), (1, true)] (by kernel_rfl) ?_
    refine Plan.move_int rfl rfl <| Plan.cmpP (a := (((x_35 : Nat) : Int) : Int)) (b := (0 : Int)) (p := x_35 ≠ 0) rfl rfl rfl rfl icmp_neN <| Plan.nil (k74 _ _ ?_); clear k74
    by_cases hc75 : x_35 ≠ 0
    ·
     replace hR := ifT hR hc75
     refine W.condT (congrArg Value.bool (decide_eq_true hc75)) ?_
     refine W.seq_k fun _ k76 => W.regionT [(0, true), (1, true), (2, true)] (by kernel_rfl) ?_
     refine Plan.move_int rfl rfl <| Plan.assign_slice rfl rfl <| Plan.assign_int rfl rfl <| Plan.nil (k76 _ _ ?_); clear k76
     refine W.ret (thenR_ret (finR_ret ?_))
     have h77 := h72.nilR
     have h78 := St.pickT (C := [_, _, _, _, _, _, _, _]) h77 [0] (by decide)
     simp only [pick, zfc, zfn, zgz, zgs, zca, zna] at h78
     subst r
     refine RetOk.mk (.tmp_slice rfl (.tmp_int rfl .nil)) ?_
     exact ⟨none, none, 0, 0, (fun _ => 0#8), rfl, h78, Ow.nil⟩
    ·
     replace hR := ifF hR hc75
     refine W.condF (congrArg Value.bool (decide_eq_false hc75)) ?_
     refine W.skip ?_
     refine k73 _ _ ?_; clear k73
     refine W.seq_k fun _ k79 => W.regionT [(0, true), (1, true), (2, true), (3, false), (4, true)] (by kernel_rfl) ?_
     refine Plan.move_ptr rfl rfl <| Plan.loadA1 h72 0 rfl rfl rfl FSeal.agg31 <| Plan.move_slice rfl rfl ?_
     have h80 := St.pickT (C := [_, _, _, _, _, _, _]) h72 [1, 2, 3, 4, 0, 5, 6] (by decide)
     simp only [pick, zfc, zfn, zgz, zgs, zca, zna] at h80
     obtain ⟨x_82, hr81, hR⟩ := hR
     refine Plan.call (vs := [.pointer (some ⟨b0_65, 0, none⟩), AG [(16, fun q => VU .u8 (x_34 q))], .slice atext3 text3.length ctext3]) rfl FSeal.call20 rfl (aes_Cipher_Stream_ok (htext3.app [_, _, _]) hr81 h80) ?_
     rintro _ w88 ⟨ay0_83, py0_84, ny0_85, cy0_86, Fy0_87, rfl, h88, hf88_0⟩
     obtain rfl := hf88_0.hl
     refine ⟨_, rfl, .inr ⟨rfl, ?_⟩⟩
     refine Plan.assign_slice rfl rfl <| Plan.nil (k79 _ _ ?_); clear k79
     refine W.seq_k fun _ k89 => W.regionT [(0, true), (1, true), (2, true), (3, true), (4, false), (5, false), (6, false), (7, true), (8, true)] (by kernel_rfl) ?_
     refine Plan.move_slice rfl rfl <| Plan.move_slice rfl rfl <| Plan.move_slice rfl rfl <| Plan.move_slice rfl rfl ?_
     obtain ⟨x_91, hr90, hR⟩ := hR
     refine Plan.call (vs := [.slice ay1_67 x_33.length cy1_69, .slice adata2 data2.length cdata2, .slice ay0_83 x_82.length cy0_86]) rfl FSeal.call23 rfl (seal_tagged_ok (iG0 := iG0 + 8) hG0 (iG1 := iG1 + 8) hG1 (by exact (Bx.move (j := 6) hf70_0 rfl rfl)) (hdata2.app [_, _, _, _, _, _, _, _]) (by exact (hf88_0.bx 0 rfl)) hr90 h88) ?_
     rintro _ w97 ⟨ay0_92, py0_93, ny0_94, cy0_95, Fy0_96, rfl, h97, hf97_0⟩
     obtain rfl := hf97_0.hl
     refine ⟨_, rfl, .inl ⟨PIn.keep PIn.nil h97, ?_⟩⟩
     refine Plan.buildSlice h97 (ps := [(2, fun i => .slice ((fun i => ([ay0_83, ay0_92] : List (Option Addr)).getD i none) i) ((fun i => ([x_82.length, x_91.length] : List Nat).getD i 0) i) ((fun i => ([cy0_86, cy0_95] : List Nat).getD i 0) i))]) FSeal.slu40 FSeal.sz24 FSeal.zv24 (by decide) (by decide) rfl rfl rfl (EffO.keep PIn.nil) fun b99 w99 hb99 h99 => ?_
     simp only [rngs, List.cons_append, List.nil_append] at h99
     obtain ⟨x_101, hr100, hR⟩ := hR
     refine Plan.call (vs := [.slice (some ⟨b99, 0, none⟩) 2 2]) rfl FSeal.call22 rfl (wire_Join_ok (by exact (Bss.of 0 rfl rfl (fun i hi => match i, hi with | 0, _ => ⟨_, (hf88_0.bx 2 rfl)⟩ | 1, _ => ⟨_, (hf97_0.bx 1 rfl)⟩ | k + 2, hk => absurd hk (by omega)))) hr100 h99) ?_
     rintro _ w107 ⟨ay0_102, py0_103, ny0_104, cy0_105, Fy0_106, rfl, h107, hf107_0⟩
     obtain rfl := hf107_0.hl
     refine ⟨_, rfl, .inl ⟨PIn.keep PIn.nil h107, ?_⟩⟩
     refine Plan.assign_slice rfl rfl <| Plan.assign_int rfl rfl <| Plan.nil (k89 _ _ ?_); clear k89
     refine W.ret (finR_ret ?_)
     have h108 := St.pickT (C := [_, _, _, _, _, _, _, _, _, _, _]) h107 [0] (by decide)
     simp only [pick, zfc, zfn, zgz, zgs, zca, zna] at h108
     subst r
     refine RetOk.mk (.tmp_slice rfl (.tmp_int rfl .nil)) ?_
     exact ⟨ay0_102, py0_103, x_101.length, cy0_105, Fy0_106, rfl, h108, hf107_0⟩
theorem seal_Open_ok {B : Nat} {w0 w : World} {L : List Rg} {iG0 : Nat} (hG0 : L[iG0]? = some ⟨some 0, 0, 8, fun q => VU .u32 (H256 q), false⟩) {iG1 : Nat} (hG1 : L[iG1]? = some ⟨some 1, 0, 64, fun q => VU .u32 (K256 q), false⟩) {key1 : Nat → BitVec 8} {data2 : List Byte} {adata2 : Option Addr} {ndata2 cdata2 idata2 : Nat} (hdata2 : Bx L idata2 adata2 ndata2 cdata2 data2) {sealed3 : List Byte} {asealed3 : Option Addr} {nsealed3 csealed3 isealed3 : Nat} (hsealed3 : Bx L isealed3 asealed3 nsealed3 csealed3 sealed3) {r : ((List Byte) × Nat)} (hR : seal_Open key1 data2 sealed3 r) (HST : St B w0 (L) w) :
  Calls Tryd.prog 12 #[AG [(32, fun q => VU .u8 (key1 q))], .slice adata2 ndata2 cdata2, .slice asealed3 nsealed3 csealed3] w fun e w' => ∃ ay0 : Option Addr, ∃ py0 : Option Nat, ∃ ny0 : Nat, ∃ cy0 : Nat, ∃ Fy0 : Nat → Byte, e = .returned (.tuple #[.slice ay0 ny0 cy0, VN r.2]) ∧ St B w0 (⟨py0, 0, cy0, fun q => VU .u8 (Fy0 q), true⟩ :: L) w' ∧ Ow ay0 py0 ny0 cy0 Fy0 r.1 := by
 refine W.enter 54 Tryd.func12 rfl rfl rfl ?_
 unfold seal_Open at hR
 have edata2 := hdata2.hl; subst edata2
 have esealed3 := hsealed3.hl; subst esealed3
 refine W.seq_k fun _ k4 => W.regionT [(0, false), (1, true), (2, true)] (by kernel_rfl) ?_
 refine Plan.boxA HST rfl rfl PIn.nil fun b5 w5 hb5 h5 => ?_
 simp only [rngs, Nat.zero_add, Nat.reduceAdd, zca, zna] at h5
 refine Plan.assign_slice rfl rfl <| Plan.assign_int rfl rfl <| Plan.nil (k4 _ _ ?_); clear k4
 refine W.seq_k fun _ k6 => W.regionT [(0, true), (1, true), (2, true), (3, true)] (by kernel_rfl) ?_
 refine Plan.move_slice rfl rfl <| Plan.len FSeal.isl24 rfl rfl ?_
 obtain ⟨hc7, hR⟩ := hR
 refine Plan.subI (a := ((sealed3.length : Nat) : Int)) (b := 32) rfl rfl rfl (by omega) <| Plan.assign_int rfl rfl <| Plan.nil (k6 _ _ ?_); clear k6
 refine W.seq_k fun _ k8 => ?_
 refine W.block ?_
 refine W.seq_k fun _ k17 => W.regionT [(0, true), (1, true), (2, true)] (by kernel_rfl) ?_
 refine Plan.move_int rfl rfl <| Plan.cmpP (a := ((((sealed3.length : Nat) : Int) - 32) : Int)) (b := (0 : Int)) (p := (((sealed3.length : Nat) : Int) - 32) < 0) rfl rfl rfl rfl icmp_lt <| Plan.assign_bool rfl rfl <| Plan.nil (k17 _ _ ?_); clear k17
 by_cases hc18 : (((sealed3.length : Nat) : Int) - 32) < 0
 ·
  replace hR := ifT hR hc18
  refine W.condT (congrArg Value.bool (decide_eq_true hc18)) ?_
  refine W.seq_k fun _ k19 => W.regionT [(0, true), (1, true)] (by kernel_rfl) ?_
  refine Plan.assign_slice rfl rfl <| Plan.assign_int rfl rfl <| Plan.nil (k19 _ _ ?_); clear k19
  refine W.ret (blockR_ret (thenR_ret (finR_ret ?_)))
  have h20 := h5.nilR
  have h21 := St.pickT (C := [_, _]) h20 [0] (by decide)
  simp only [pick, zfc, zfn, zgz, zgs, zca, zna] at h21
  subst r
  refine RetOk.mk (.tmp_slice rfl (.tmp_int rfl .nil)) ?_
  exact ⟨none, none, 0, 0, (fun _ => 0#8), rfl, h21, Ow.nil⟩
 ·
  replace hR := ifF hR hc18
  refine W.condF (congrArg Value.bool (decide_eq_false hc18)) ?_
  refine W.seq_k fun _ k22 => W.regionT [(0, true), (1, true), (2, true), (3, true), (4, true), (5, true), (6, true), (7, true)] (by kernel_rfl) ?_
  refine Plan.move_int rfl rfl ?_
  by_cases hc23 : 512 < (((sealed3.length : Nat) : Int) - 32)
  ·
   replace hR := ifT hR hc23
   refine Plan.cmpV (a := ((((sealed3.length : Nat) : Int) - 32) : Int)) (b := (512 : Int)) (p := 512 < (((sealed3.length : Nat) : Int) - 32)) (v := true) rfl rfl rfl rfl icmp_gt (decide_eq_true hc23) <| Plan.move_bool rfl rfl <| Plan.passed rfl <| Plan.passed rfl <| Plan.passed rfl <| Plan.pickTb rfl rfl rfl <| Plan.assign_bool rfl rfl <| Plan.nil (k22 _ _ ?_); clear k22
   refine W.condT rfl ?_
   refine W.seq_k fun _ k24 => W.regionT [(0, true), (1, true)] (by kernel_rfl) ?_
   refine Plan.assign_slice rfl rfl <| Plan.assign_int rfl rfl <| Plan.nil (k24 _ _ ?_); clear k24
   refine W.ret (blockR_ret (thenR_ret (finR_ret ?_)))
   have h25 := h5.nilR
   have h26 := St.pickT (C := [_, _]) h25 [0] (by decide)
   simp only [pick, zfc, zfn, zgz, zgs, zca, zna] at h26
   subst r
   refine RetOk.mk (.tmp_slice rfl (.tmp_int rfl .nil)) ?_
   exact ⟨none, none, 0, 0, (fun _ => 0#8), rfl, h26, Ow.nil⟩
  ·
   replace hR := ifF hR hc23
   refine Plan.cmpV (a := ((((sealed3.length : Nat) : Int) - 32) : Int)) (b := (512 : Int)) (p := 512 < (((sealed3.length : Nat) : Int) - 32)) (v := false) rfl rfl rfl rfl icmp_gt (decide_eq_false hc23) <| Plan.move_bool rfl rfl <| Plan.move_slice rfl rfl <| Plan.len FSeal.isl24 rfl rfl <| Plan.cmpP (a := (((data2.length : Nat) : Int) : Int)) (b := (65535 : Int)) (p := 65535 < data2.length) rfl rfl rfl rfl icmp_gtN <| Plan.pickFb rfl rfl rfl <| Plan.assign_bool rfl rfl <| Plan.nil (k22 _ _ ?_); clear k22
   by_cases hc27 : 65535 < data2.length
   ·
    replace hR := ifT hR hc27
    refine W.condT (congrArg Value.bool (decide_eq_true hc27)) ?_
    refine W.seq_k fun _ k28 => W.regionT [(0, true), (1, true)] (by kernel_rfl) ?_
    refine Plan.assign_slice rfl rfl <| Plan.assign_int rfl rfl <| Plan.nil (k28 _ _ ?_); clear k28
    refine W.ret (blockR_ret (thenR_ret (finR_ret ?_)))
    have h29 := h5.nilR
    have h30 := St.pickT (C := [_, _]) h29 [0] (by decide)
    simp only [pick, zfc, zfn, zgz, zgs, zca, zna] at h30
    subst r
    refine RetOk.mk (.tmp_slice rfl (.tmp_int rfl .nil)) ?_
    exact ⟨none, none, 0, 0, (fun _ => 0#8), rfl, h30, Ow.nil⟩
   ·
    replace hR := ifF hR hc27
    refine W.condF (congrArg Value.bool (decide_eq_false hc27)) ?_
    refine W.skip ?_
    refine blockR_norm ?_
    refine k8 _ _ ?_; clear k8
    refine W.seq_k fun _ k31 => W.regionT [(0, true), (1, false), (2, true), (3, true), (4, true), (5, true), (6, true), (7, false), (8, true), (9, true), (10, false), (11, true)] (by kernel_rfl) ?_
    refine Plan.loadA1 h5 0 rfl rfl rfl FSeal.agg23 ?_
    rcases hR with ⟨x_33, x_34, x_35, hr32, hR⟩ | ⟨x_36, x_37, x_38, hr32, hR⟩ | ⟨x_39, x_40, x_41, x_42, x_43, x_44, x_45, hr32, hR⟩
    ·
     refine Plan.call (vs := [AG [(32, fun q => VU .u8 (key1 q))]]) rfl FSeal.call21 rfl (seal_keys_ok (iG0 := iG0 + 1) hG0 (iG1 := iG1 + 1) hG1 hr32 h5) ?_
     rintro _ w51 ⟨ay1_46, py1_47, ny1_48, cy1_49, Fy1_50, rfl, h51, hf51_0⟩
     try dsimp only at hf51_0
     obtain rfl := hf51_0.hl
     refine ⟨_, rfl, .inr ⟨rfl, ?_⟩⟩
     refine Plan.move_tuple rfl rfl <| Plan.extract_ptr rfl rfl rfl <| Plan.extract_slice rfl rfl rfl <| Plan.extract_agg rfl rfl rfl <| Plan.extract_int rfl rfl rfl ?_
     refine Plan.alloc h51 rfl FSeal.z31 PIn.nil fun b52 w52 hb52 h52 => ?_
     simp only [rngs, Nat.zero_add, Nat.reduceAdd, zca, zna] at h52
     refine Plan.assign_ptr rfl rfl <| Plan.assign_slice rfl rfl ?_
     refine Plan.storeA (f' := fun q => VU .u8 (x_34 q)) h52 0 rfl rfl rfl rfl (fun _ _ => rfl) FSeal.sz31 rfl fun w53 h53 => ?_
     simp only [zca, zna, zsz, zss] at h53
     refine Plan.assign_int rfl rfl <| Plan.nil (k31 _ _ ?_); clear k31
     refine W.seq_k fun _ k54 => W.seq_k fun _ k55 => ?_
     refine W.regionT [(0, true), (1, true)] (by kernel_rfl) ?_
     refine Plan.move_int rfl rfl <| Plan.cmpP (a := (((x_35 : Nat) : Int) : Int)) (b := (0 : Int)) (p := x_35 ≠ 0) rfl rfl rfl rfl icmp_neN <| Plan.nil (k55 _ _ ?_); clear k55
     by_cases hc56 : x_35 ≠ 0
     ·
      replace hR := ifT hR hc56
      refine W.condT (congrArg Value.bool (decide_eq_true hc56)) ?_
      refine W.seq_k fun _ k57 => W.regionT [(0, true), (1, true), (2, true)] (by kernel_rfl) ?_
      refine Plan.move_int rfl rfl <| Plan.assign_slice rfl rfl <| Plan.assign_int rfl rfl <| Plan.nil (k57 _ _ ?_); clear k57
      refine W.ret (thenR_ret (finR_ret ?_))
      have h58 := h53.nilR
      have h59 := St.pickT (C := [_, _, _, _]) h58 [0] (by decide)
      simp only [pick, zfc, zfn, zgz, zgs, zca, zna] at h59
      subst r
      refine RetOk.mk (.tmp_slice rfl (.tmp_int rfl .nil)) ?_
      exact ⟨none, none, 0, 0, (fun _ => 0#8), rfl, h59, Ow.nil⟩
     ·
      replace hR := ifF hR hc56
      refine W.condF (congrArg Value.bool (decide_eq_false hc56)) ?_
      refine W.skip ?_
      refine k54 _ _ ?_; clear k54
      refine W.seq_k fun _ k60 => W.seq_k fun _ k61 => ?_
      refine W.regionD FSeal.mixed [(0, true), (1, true), (2, true), (3, true), (4, true), (5, true), (6, true), (7, true), (8, false), (9, false), (10, true)] (by kernel_rfl) ?_
      have h62 := h53.drew
      refine Plan.move_slice rfl rfl <| Plan.move_int rfl rfl ?_
      obtain ⟨hc63, hR⟩ := hR
      obtain ⟨hc64, hR⟩ := hR
      refine Plan.slV (lo := (((sealed3.length : Nat) : Int) - 32).toNat) (hi := sealed3.length) hsealed3 FSeal.sl24 rfl rfl ⟨_, congrArg (Value.int .i64) (Int.toNat_of_nonneg hc63).symm⟩ rfl hc64 fun a65 c65 hv65 => ?_
      refine Plan.move_slice rfl rfl <| Plan.move_slice rfl rfl <| Plan.move_slice rfl rfl <| Plan.move_int rfl rfl ?_
      obtain ⟨hc66, hR⟩ := hR
      obtain ⟨hc67, hR⟩ := hR
      refine Plan.slV (lo := 0) (hi := (((sealed3.length : Nat) : Int) - 32).toNat) hsealed3 FSeal.sl24 rfl rfl rfl ⟨_, congrArg (Value.int .i64) (Int.toNat_of_nonneg hc66).symm⟩ hc67 fun a68 c68 hv68 => ?_
      obtain ⟨x_70, hr69, hR⟩ := hR
      refine Plan.call (vs := [.slice ay1_46 x_33.length cy1_49, .slice adata2 data2.length cdata2, .slice a68 ((seg sealed3 0 ((((sealed3.length : Nat) : Int) - 32).toNat)).length) c68]) rfl FSeal.call23 rfl (seal_tagged_ok (iG0 := iG0 + 3) hG0 (iG1 := iG1 + 3) hG1 (by exact (hf51_0.bx 1 rfl)) (hdata2.app [_, _, _]) (hv68.app [_, _, _]) hr69 h62) ?_
      rintro _ w76 ⟨ay0_71, py0_72, ny0_73, cy0_74, Fy0_75, rfl, h76, hf76_0⟩
      obtain rfl := hf76_0.hl
      refine ⟨_, rfl, .inl ⟨PIn.keep PIn.nil h76, ?_⟩⟩
      obtain ⟨x_78, hr77, hR⟩ := hR
      refine Plan.call (vs := [.slice a65 ((seg sealed3 ((((sealed3.length : Nat) : Int) - 32).toNat) sealed3.length).length) c65, .slice ay0_71 x_70.length cy0_74]) rfl FSeal.call24 rfl (wire_Same_ok (hv65.app [_, _, _, _]) (by exact (hf76_0.bx 0 rfl)) hr77 h76) ?_
      rintro _ w79 ⟨rfl, h79⟩
      refine ⟨_, rfl, .inl ⟨PIn.keep PIn.nil h79, ?_⟩⟩
      refine Plan.not rfl rfl <| Plan.nil (k61 _ _ ?_); clear k61
      by_cases hc80 : x_78 = true
      ·
       replace hR := ifT hR hc80
       refine W.condF (congrArg Value.bool (congrArg Bool.not hc80)) ?_
       refine W.skip ?_
       refine k60 _ _ ?_; clear k60
       refine W.seq_k fun _ k81 => ?_
       refine W.regionD FSeal.mixed [(0, true), (1, true), (2, true), (3, true), (4, true), (5, false), (6, true), (7, true)] (by kernel_rfl) ?_
       have h82 := h79.drew
       refine Plan.move_ptr rfl rfl <| Plan.loadA1 h82 1 rfl rfl rfl FSeal.agg31 <| Plan.move_slice rfl rfl <| Plan.move_int rfl rfl ?_
       obtain ⟨hc83, hR⟩ := hR
       obtain ⟨hc84, hR⟩ := hR
       refine Plan.slV (lo := 0) (hi := (((sealed3.length : Nat) : Int) - 32).toNat) hsealed3 FSeal.sl24 rfl rfl rfl ⟨_, congrArg (Value.int .i64) (Int.toNat_of_nonneg hc83).symm⟩ hc84 fun a85 c85 hv85 => ?_
       exact hR.elim
      ·
       replace hR := ifF hR hc80
       refine W.condT (congrArg Value.bool (congrArg Bool.not (Bool.eq_false_iff.2 hc80))) ?_
       refine W.seq_k fun _ k86 => W.regionT [(0, true), (1, true)] (by kernel_rfl) ?_
       refine Plan.assign_slice rfl rfl <| Plan.assign_int rfl rfl <| Plan.nil (k86 _ _ ?_); clear k86
       refine W.ret (thenR_ret (finR_ret ?_))
       have h87 := h79.nilR
       have h88 := St.pickT (C := [_, _, _, _, _]) h87 [0] (by decide)
       simp only [pick, zfc, zfn, zgz, zgs, zca, zna] at h88
       subst r
       refine RetOk.mk (.tmp_slice rfl (.tmp_int rfl .nil)) ?_
       exact ⟨none, none, 0, 0, (fun _ => 0#8), rfl, h88, Ow.nil⟩
    ·
     refine Plan.call (vs := [AG [(32, fun q => VU .u8 (key1 q))]]) rfl FSeal.call21 rfl (seal_keys_ok (iG0 := iG0 + 1) hG0 (iG1 := iG1 + 1) hG1 hr32 h5) ?_
     rintro _ w93 ⟨ry1_89, ay1_90, ny1_91, cy1_92, rfl, h93, hf93_0⟩
     try dsimp only at hf93_0
     obtain rfl := hf93_0.hl
     refine ⟨_, rfl, .inr ⟨rfl, ?_⟩⟩
     refine Plan.move_tuple rfl rfl <| Plan.extract_ptr rfl rfl rfl <| Plan.extract_slice rfl rfl rfl <| Plan.extract_agg rfl rfl rfl <| Plan.extract_int rfl rfl rfl ?_
     refine Plan.alloc h93 rfl FSeal.z31 PIn.nil fun b94 w94 hb94 h94 => ?_
     simp only [rngs, Nat.zero_add, Nat.reduceAdd, zca, zna] at h94
     refine Plan.assign_ptr rfl rfl <| Plan.assign_slice rfl rfl ?_
     refine Plan.storeA (f' := fun q => VU .u8 (x_37 q)) h94 0 rfl rfl rfl rfl (fun _ _ => rfl) FSeal.sz31 rfl fun w95 h95 => ?_
     simp only [zca, zna, zsz, zss] at h95
     refine Plan.assign_int rfl rfl <| Plan.nil (k31 _ _ ?_); clear k31
     refine W.seq_k fun _ k96 => W.seq_k fun _ k97 => ?_
     refine W.regionT [(0, true), (1, true)] (by kernel_rfl) ?_
     refine Plan.move_int rfl rfl <| Plan.cmpP (a := (((x_38 : Nat) : Int) : Int)) (b := (0 : Int)) (p := x_38 ≠ 0) rfl rfl rfl rfl icmp_neN <| Plan.nil (k97 _ _ ?_); clear k97
     by_cases hc98 : x_38 ≠ 0
     ·
      replace hR := ifT hR hc98
      refine W.condT (congrArg Value.bool (decide_eq_true hc98)) ?_
      refine W.seq_k fun _ k99 => W.regionT [(0, true), (1, true), (2, true)] (by kernel_rfl) ?_
      refine Plan.move_int rfl rfl <| Plan.assign_slice rfl rfl <| Plan.assign_int rfl rfl <| Plan.nil (k99 _ _ ?_); clear k99
      refine W.ret (thenR_ret (finR_ret ?_))
      have h100 := h95.nilR
      have h101 := St.pickT (C := [_, _, _, _]) h100 [0] (by decide)
      simp only [pick, zfc, zfn, zgz, zgs, zca, zna] at h101
      subst r
      refine RetOk.mk (.tmp_slice rfl (.tmp_int rfl .nil)) ?_
      exact ⟨none, none, 0, 0, (fun _ => 0#8), rfl, h101, Ow.nil⟩
     ·
      replace hR := ifF hR hc98
      refine W.condF (congrArg Value.bool (decide_eq_false hc98)) ?_
      refine W.skip ?_
      refine k96 _ _ ?_; clear k96
      refine W.seq_k fun _ k102 => W.seq_k fun _ k103 => ?_
      refine W.regionD FSeal.mixed [(0, true), (1, true), (2, true), (3, true), (4, true), (5, true), (6, true), (7, true), (8, false), (9, false), (10, true)] (by kernel_rfl) ?_
      have h104 := h95.drew
      refine Plan.move_slice rfl rfl <| Plan.move_int rfl rfl ?_
      obtain ⟨hc105, hR⟩ := hR
      obtain ⟨hc106, hR⟩ := hR
      refine Plan.slV (lo := (((sealed3.length : Nat) : Int) - 32).toNat) (hi := sealed3.length) hsealed3 FSeal.sl24 rfl rfl ⟨_, congrArg (Value.int .i64) (Int.toNat_of_nonneg hc105).symm⟩ rfl hc106 fun a107 c107 hv107 => ?_
      refine Plan.move_slice rfl rfl <| Plan.move_slice rfl rfl <| Plan.move_slice rfl rfl <| Plan.move_int rfl rfl ?_
      obtain ⟨hc108, hR⟩ := hR
      obtain ⟨hc109, hR⟩ := hR
      refine Plan.slV (lo := 0) (hi := (((sealed3.length : Nat) : Int) - 32).toNat) hsealed3 FSeal.sl24 rfl rfl rfl ⟨_, congrArg (Value.int .i64) (Int.toNat_of_nonneg hc108).symm⟩ hc109 fun a110 c110 hv110 => ?_
      obtain ⟨x_112, hr111, hR⟩ := hR
      refine Plan.call (vs := [.slice ay1_90 x_36.length cy1_92, .slice adata2 data2.length cdata2, .slice a110 ((seg sealed3 0 ((((sealed3.length : Nat) : Int) - 32).toNat)).length) c110]) rfl FSeal.call23 rfl (seal_tagged_ok (iG0 := iG0 + 3) hG0 (iG1 := iG1 + 3) hG1 (by exact (Bx.move (j := 1) hf93_0 rfl rfl)) (hdata2.app [_, _, _]) (hv110.app [_, _, _]) hr111 h104) ?_
      rintro _ w118 ⟨ay0_113, py0_114, ny0_115, cy0_116, Fy0_117, rfl, h118, hf118_0⟩
      obtain rfl := hf118_0.hl
      refine ⟨_, rfl, .inl ⟨PIn.keep PIn.nil h118, ?_⟩⟩
      obtain ⟨x_120, hr119, hR⟩ := hR
      refine Plan.call (vs := [.slice a107 ((seg sealed3 ((((sealed3.length : Nat) : Int) - 32).toNat) sealed3.length).length) c107, .slice ay0_113 x_112.length cy0_116]) rfl FSeal.call24 rfl (wire_Same_ok (hv107.app [_, _, _, _]) (by exact (hf118_0.bx 0 rfl)) hr119 h118) ?_
      rintro _ w121 ⟨rfl, h121⟩
      refine ⟨_, rfl, .inl ⟨PIn.keep PIn.nil h121, ?_⟩⟩
      refine Plan.not rfl rfl <| Plan.nil (k103 _ _ ?_); clear k103
      by_cases hc122 : x_120 = true
      ·
       replace hR := ifT hR hc122
       refine W.condF (congrArg Value.bool (congrArg Bool.not hc122)) ?_
       refine W.skip ?_
       refine k102 _ _ ?_; clear k102
       refine W.seq_k fun _ k123 => ?_
       refine W.regionD FSeal.mixed [(0, true), (1, true), (2, true), (3, true), (4, true), (5, false), (6, true), (7, true)] (by kernel_rfl) ?_
       have h124 := h121.drew
       refine Plan.move_ptr rfl rfl <| Plan.loadA1 h124 1 rfl rfl rfl FSeal.agg31 <| Plan.move_slice rfl rfl <| Plan.move_int rfl rfl ?_
       obtain ⟨hc125, hR⟩ := hR
       obtain ⟨hc126, hR⟩ := hR
       refine Plan.slV (lo := 0) (hi := (((sealed3.length : Nat) : Int) - 32).toNat) hsealed3 FSeal.sl24 rfl rfl rfl ⟨_, congrArg (Value.int .i64) (Int.toNat_of_nonneg hc125).symm⟩ hc126 fun a127 c127 hv127 => ?_
       exact hR.elim
      ·
       replace hR := ifF hR hc122
       refine W.condT (congrArg Value.bool (congrArg Bool.not (Bool.eq_false_iff.2 hc122))) ?_
       refine W.seq_k fun _ k128 => W.regionT [(0, true), (1, true)] (by kernel_rfl) ?_
       refine Plan.assign_slice rfl rfl <| Plan.assign_int rfl rfl <| Plan.nil (k128 _ _ ?_); clear k128
       refine W.ret (thenR_ret (finR_ret ?_))
       have h129 := h121.nilR
       have h130 := St.pickT (C := [_, _, _, _, _]) h129 [0] (by decide)
       simp only [pick, zfc, zfn, zgz, zgs, zca, zna] at h130
       subst r
       refine RetOk.mk (.tmp_slice rfl (.tmp_int rfl .nil)) ?_
       exact ⟨none, none, 0, 0, (fun _ => 0#8), rfl, h130, Ow.nil⟩
    ·
     refine Plan.call (vs := [AG [(32, fun q => VU .u8 (key1 q))]]) rfl FSeal.call21 rfl (seal_keys_ok (iG0 := iG0 + 1) hG0 (iG1 := iG1 + 1) hG1 hr32 h5) ?_
     rintro _ w136 ⟨b0_131, ry1_132, ay1_133, ny1_134, cy1_135, rfl, h136, hf136_0⟩
     try dsimp only at hf136_0
     obtain rfl := hf136_0.hl
     refine ⟨_, rfl, .inr ⟨rfl, ?_⟩⟩
     refine Plan.move_tuple rfl rfl <| Plan.extract_ptr rfl rfl rfl <| Plan.extract_slice rfl rfl rfl <| Plan.extract_agg rfl rfl rfl <| Plan.extract_int rfl rfl rfl ?_
     refine Plan.alloc h136 rfl FSeal.z31 PIn.nil fun b137 w137 hb137 h137 => ?_
     simp only [rngs, Nat.zero_add, Nat.reduceAdd, zca, zna] at h137
     refine Plan.assign_ptr rfl rfl <| Plan.assign_slice rfl rfl ?_
     refine Plan.storeA (f' := fun q => VU .u8 (x_44 q)) h137 0 rfl rfl rfl rfl (fun _ _ => rfl) FSeal.sz31 rfl fun w138 h138 => ?_
     simp only [zca, zna, zsz, zss] at h138
     refine Plan.assign_int rfl rfl <| Plan.nil (k31 _ _ ?_); clear k31
     refine W.seq_k fun _ k139 => W.seq_k fun _ k140 => ?_
     refine W.regionT [(0, true), (1, true)] (by kernel_rfl) ?_
     refine Plan.move_int rfl rfl <| Plan.cmpP (a := (((x_45 : Nat) : Int) : Int)) (b := (0 : Int)) (p := x_45 ≠ 0) rfl rfl rfl rfl icmp_neN <| Plan.nil (k140 _ _ ?_); clear k140
     by_cases hc141 : x_45 ≠ 0
     ·
      replace hR := ifT hR hc141
      refine W.condT (congrArg Value.bool (decide_eq_true hc141)) ?_
      refine W.seq_k fun _ k142 => W.regionT [(0, true), (1, true), (2, true)] (by kernel_rfl) ?_
      refine Plan.move_int rfl rfl <| Plan.assign_slice rfl rfl <| Plan.assign_int rfl rfl <| Plan.nil (k142 _ _ ?_); clear k142
      refine W.ret (thenR_ret (finR_ret ?_))
      have h143 := h138.nilR
      have h144 := St.pickT (C := [_, _, _, _, _, _, _, _]) h143 [0] (by decide)
      simp only [pick, zfc, zfn, zgz, zgs, zca, zna] at h144
      subst r
      refine RetOk.mk (.tmp_slice rfl (.tmp_int rfl .nil)) ?_
      exact ⟨none, none, 0, 0, (fun _ => 0#8), rfl, h144, Ow.nil⟩
     ·
      replace hR := ifF hR hc141
      refine W.condF (congrArg Value.bool (decide_eq_false hc141)) ?_
      refine W.skip ?_
      refine k139 _ _ ?_; clear k139
      refine W.seq_k fun _ k145 => W.seq_k fun _ k146 => ?_
      refine W.regionD FSeal.mixed [(0, true), (1, true), (2, true), (3, true), (4, true), (5, true), (6, true), (7, true), (8, false), (9, false), (10, true)] (by kernel_rfl) ?_
      have h147 := h138.drew
      refine Plan.move_slice rfl rfl <| Plan.move_int rfl rfl ?_
      obtain ⟨hc148, hR⟩ := hR
      obtain ⟨hc149, hR⟩ := hR
      refine Plan.slV (lo := (((sealed3.length : Nat) : Int) - 32).toNat) (hi := sealed3.length) hsealed3 FSeal.sl24 rfl rfl ⟨_, congrArg (Value.int .i64) (Int.toNat_of_nonneg hc148).symm⟩ rfl hc149 fun a150 c150 hv150 => ?_
      refine Plan.move_slice rfl rfl <| Plan.move_slice rfl rfl <| Plan.move_slice rfl rfl <| Plan.move_int rfl rfl ?_
      obtain ⟨hc151, hR⟩ := hR
      obtain ⟨hc152, hR⟩ := hR
      refine Plan.slV (lo := 0) (hi := (((sealed3.length : Nat) : Int) - 32).toNat) hsealed3 FSeal.sl24 rfl rfl rfl ⟨_, congrArg (Value.int .i64) (Int.toNat_of_nonneg hc151).symm⟩ hc152 fun a153 c153 hv153 => ?_
      obtain ⟨x_155, hr154, hR⟩ := hR
      refine Plan.call (vs := [.slice ay1_133 x_43.length cy1_135, .slice adata2 data2.length cdata2, .slice a153 ((seg sealed3 0 ((((sealed3.length : Nat) : Int) - 32).toNat)).length) c153]) rfl FSeal.call23 rfl (seal_tagged_ok (iG0 := iG0 + 7) hG0 (iG1 := iG1 + 7) hG1 (by exact (Bx.move (j := 5) hf136_0 rfl rfl)) (hdata2.app [_, _, _, _, _, _, _]) (hv153.app [_, _, _, _, _, _, _]) hr154 h147) ?_
      rintro _ w161 ⟨ay0_156, py0_157, ny0_158, cy0_159, Fy0_160, rfl, h161, hf161_0⟩
      obtain rfl := hf161_0.hl
      refine ⟨_, rfl, .inl ⟨PIn.keep PIn.nil h161, ?_⟩⟩
      obtain ⟨x_163, hr162, hR⟩ := hR
      refine Plan.call (vs := [.slice a150 ((seg sealed3 ((((sealed3.length : Nat) : Int) - 32).toNat) sealed3.length).length) c150, .slice ay0_156 x_155.length cy0_159]) rfl FSeal.call24 rfl (wire_Same_ok (hv150.app [_, _, _, _, _, _, _, _]) (by exact (hf161_0.bx 0 rfl)) hr162 h161) ?_
      rintro _ w164 ⟨rfl, h164⟩
      refine ⟨_, rfl, .inl ⟨PIn.keep PIn.nil h164, ?_⟩⟩
      refine Plan.not rfl rfl <| Plan.nil (k146 _ _ ?_); clear k146
      by_cases hc165 : x_163 = true
      ·
       replace hR := ifT hR hc165
       refine W.condF (congrArg Value.bool (congrArg Bool.not hc165)) ?_
       refine W.skip ?_
       refine k145 _ _ ?_; clear k145
       refine W.seq_k fun _ k166 => ?_
       refine W.regionD FSeal.mixed [(0, true), (1, true), (2, true), (3, true), (4, true), (5, false), (6, true), (7, true)] (by kernel_rfl) ?_
       have h167 := h164.drew
       refine Plan.move_ptr rfl rfl <| Plan.loadA1 h167 1 rfl rfl rfl FSeal.agg31 <| Plan.move_slice rfl rfl <| Plan.move_int rfl rfl ?_
       obtain ⟨hc168, hR⟩ := hR
       obtain ⟨hc169, hR⟩ := hR
       refine Plan.slV (lo := 0) (hi := (((sealed3.length : Nat) : Int) - 32).toNat) hsealed3 FSeal.sl24 rfl rfl rfl ⟨_, congrArg (Value.int .i64) (Int.toNat_of_nonneg hc168).symm⟩ hc169 fun a170 c170 hv170 => ?_
       have h171 := St.pickT (C := [_, _, _, _, _, _, _, _]) h167 [2, 3, 4, 5, 0, 1, 6, 7] (by decide)
       simp only [pick, zfc, zfn, zgz, zgs, zca, zna] at h171
       obtain ⟨x_173, hr172, hR⟩ := hR
       refine Plan.call (vs := [.pointer (some ⟨b0_131, 0, none⟩), AG [(16, fun q => VU .u8 (x_44 q))], .slice a170 ((seg sealed3 0 ((((sealed3.length : Nat) : Int) - 32).toNat)).length) c170]) rfl FSeal.call20 rfl (aes_Cipher_Stream_ok (hv170.app [_, _, _, _]) hr172 h171) ?_
       rintro _ w179 ⟨ay0_174, py0_175, ny0_176, cy0_177, Fy0_178, rfl, h179, hf179_0⟩
       obtain rfl := hf179_0.hl
       refine ⟨_, rfl, .inr ⟨rfl, ?_⟩⟩
       refine Plan.assign_slice rfl rfl <| Plan.assign_int rfl rfl <| Plan.nil (k166 _ _ ?_); clear k166
       refine W.ret (finR_ret ?_)
       have h180 := St.pickT (C := [_, _, _, _, _, _, _, _, _]) h179 [0] (by decide)
       simp only [pick, zfc, zfn, zgz, zgs, zca, zna] at h180
       subst r
       refine RetOk.mk (.tmp_slice rfl (.tmp_int rfl .nil)) ?_
       exact ⟨ay0_174, py0_175, x_173.length, cy0_177, Fy0_178, rfl, h180, hf179_0⟩
      ·
       replace hR := ifF hR hc165
       refine W.condT (congrArg Value.bool (congrArg Bool.not (Bool.eq_false_iff.2 hc165))) ?_
       refine W.seq_k fun _ k181 => W.regionT [(0, true), (1, true)] (by kernel_rfl) ?_
       refine Plan.assign_slice rfl rfl <| Plan.assign_int rfl rfl <| Plan.nil (k181 _ _ ?_); clear k181
       refine W.ret (thenR_ret (finR_ret ?_))
       have h182 := h164.nilR
       have h183 := St.pickT (C := [_, _, _, _, _, _, _, _, _]) h182 [0] (by decide)
       simp only [pick, zfc, zfn, zgz, zgs, zca, zna] at h183
       subst r
       refine RetOk.mk (.tmp_slice rfl (.tmp_int rfl .nil)) ?_
       exact ⟨none, none, 0, 0, (fun _ => 0#8), rfl, h183, Ow.nil⟩
theorem seal_Length_ok {B : Nat} {w0 w : World} {L : List Rg} {n_1 : Int} {r : Int} (hR : seal_Length n_1 r) (HST : St B w0 (L) w) :
  Calls Tryd.prog 18 #[.int .i64 n_1] w fun e w' => e = .returned (.int .i64 r) ∧ St B w0 (L) w' := by
 refine W.enter 11 Tryd.func18 rfl rfl rfl ?_
 unfold seal_Length at hR
 refine W.seq_k fun _ k2 => W.regionT [(0, true)] (by kernel_rfl) ?_
 refine Plan.assign_int rfl rfl <| Plan.nil (k2 _ _ ?_); clear k2
 refine W.seq_k fun _ k3 => W.seq_k fun _ k9 => ?_
 refine W.regionT [(0, true), (1, true), (2, true), (3, true), (4, true), (5, true)] (by kernel_rfl) ?_
 refine Plan.move_int rfl rfl ?_
 by_cases hc10 : n_1 < 0
 ·
  replace hR := ifT hR hc10
  refine Plan.cmpV (a := (n_1 : Int)) (b := (0 : Int)) (p := n_1 < 0) (v := true) rfl rfl rfl rfl icmp_lt (decide_eq_true hc10) <| Plan.move_bool rfl rfl <| Plan.passed rfl <| Plan.passed rfl <| Plan.pickTb rfl rfl rfl <| Plan.nil (k9 _ _ ?_); clear k9
  refine W.condT rfl ?_
  refine W.seq_k fun _ k11 => W.regionT [(0, true)] (by kernel_rfl) ?_
  refine Plan.assign_int rfl rfl <| Plan.nil (k11 _ _ ?_); clear k11
  refine W.ret (thenR_ret (finR_ret ?_))
  subst r
  refine RetOk.mk (.tmp_int rfl .nil) ?_
  exact ⟨rfl, HST⟩
 ·
  replace hR := ifF hR hc10
  refine Plan.cmpV (a := (n_1 : Int)) (b := (0 : Int)) (p := n_1 < 0) (v := false) rfl rfl rfl rfl icmp_lt (decide_eq_false hc10) <| Plan.move_bool rfl rfl <| Plan.move_int rfl rfl <| Plan.cmpP (a := (n_1 : Int)) (b := (512 : Int)) (p := 512 < n_1) rfl rfl rfl rfl icmp_gt <| Plan.pickFb rfl rfl rfl <| Plan.nil (k9 _ _ ?_); clear k9
  by_cases hc12 : 512 < n_1
  ·
   replace hR := ifT hR hc12
   refine W.condT (congrArg Value.bool (decide_eq_true hc12)) ?_
   refine W.seq_k fun _ k13 => W.regionT [(0, true)] (by kernel_rfl) ?_
   refine Plan.assign_int rfl rfl <| Plan.nil (k13 _ _ ?_); clear k13
   refine W.ret (thenR_ret (finR_ret ?_))
   subst r
   refine RetOk.mk (.tmp_int rfl .nil) ?_
   exact ⟨rfl, HST⟩
  ·
   replace hR := ifF hR hc12
   refine W.condF (congrArg Value.bool (decide_eq_false hc12)) ?_
   refine W.skip ?_
   refine k3 _ _ ?_; clear k3
   refine W.seq_k fun _ k14 => W.regionT [(0, true), (1, true), (2, true)] (by kernel_rfl) ?_
   refine Plan.move_int rfl rfl <| Plan.addI (a := n_1) (b := 32) rfl rfl rfl (by omega) <| Plan.assign_int rfl rfl <| Plan.nil (k14 _ _ ?_); clear k14
   refine W.ret (finR_ret ?_)
   subst r
   refine RetOk.mk (.tmp_int rfl .nil) ?_
   exact ⟨rfl, HST⟩
end Go.Proofs.YthjkmhdgenmnoaaDoor
