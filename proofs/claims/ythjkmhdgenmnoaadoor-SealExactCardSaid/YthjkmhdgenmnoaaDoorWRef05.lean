/-
 WALKS of the package's functions, printed by this session's own program (auto.py).
-/
import Derived.Test.YthjkmhdgenmnoaaDoorProg
import Derived.Test.YthjkmhdgenmnoaaDoorEc
import Derived.Test.YthjkmhdgenmnoaaDoorRRef05
import Derived.Test.YthjkmhdgenmnoaaDoorEls
import Derived.Test.YthjkmhdgenmnoaaDoorWRef03
import Derived.Test.YthjkmhdgenmnoaaDoorWRef04
namespace Go.Proofs.YthjkmhdgenmnoaaDoor
set_option linter.unusedSimpArgs false
set_option linter.unusedVariables false
set_option linter.unusedSectionVars false
set_option maxRecDepth 8000
set_option maxHeartbeats 1000000
open Go Go.LW
theorem FRef05.mixed : Tryd.prog.follows .mixedOrders = true := by kernel_rfl
theorem FRef05.el24 : elD Tryd.prog 24 = some (1, 1, some (VU .u8 0#8)) := by kernel_rfl
theorem FRef05.sl24 : slB Tryd.prog 24 1 = true := by kernel_rfl
theorem FRef05.zv5 : (Tryd.prog.info? 5).bind (·.zero) = some (VU .u8 0#8) := by kernel_rfl
theorem FRef05.slu24 : Tryd.prog.underlying 24 = some (.slice 5) := by kernel_rfl
theorem FRef05.sz5 : szT Tryd.prog 5 1 = true := by kernel_rfl
theorem FRef05.isl24 : ∃ el, Tryd.prog.underlying 24 = some (.slice el) := ⟨5, by kernel_rfl⟩
theorem FRef05.z31 : zeroIs Tryd.prog 31 [(16, fun _ => VU .u8 0#8)] := zeroIs_agg (by kernel_rfl)
theorem FRef05.u5 : Tryd.prog.underlying 5 = some (.int .u8) := by kernel_rfl
theorem FRef05.zv24 : (Tryd.prog.info? 24).bind (·.zero) = some (.slice none 0 0) := by kernel_rfl
theorem FRef05.slu40 : Tryd.prog.underlying 40 = some (.slice 24) := by kernel_rfl
theorem FRef05.sz24 : szT Tryd.prog 24 1 = true := by kernel_rfl
theorem FRef05.sc5 : scalarT Tryd.prog 5 = true := by kernel_rfl
theorem FRef05.some3 : (Tryd.prog.underlying 3).isSome = true := by kernel_rfl
theorem FRef05.agg31 : aggT Tryd.prog 31 16 = true := by kernel_rfl
theorem FRef05.sz31 : szT Tryd.prog 31 16 = true := by kernel_rfl
theorem FRef05.arr31 : arrB Tryd.prog 31 16 1 = true := by kernel_rfl
theorem FRef05.agg22 : aggT Tryd.prog 22 32 = true := by kernel_rfl
theorem FRef05.arr22 : arrB Tryd.prog 22 32 1 = true := by kernel_rfl
theorem FRef05.z22 : zeroIs Tryd.prog 22 [(32, fun _ => VU .u8 0#8)] := zeroIs_agg (by kernel_rfl)
theorem FRef05.sz22 : szT Tryd.prog 22 32 = true := by kernel_rfl
theorem FRef05.call47 : callB Tryd.prog 47 = true := by kernel_rfl
theorem FRef05.call59 : callB Tryd.prog 59 = true := by kernel_rfl
theorem FRef05.call55 : callB Tryd.prog 55 = true := by kernel_rfl
theorem FRef05.call44 : callB Tryd.prog 44 = true := by kernel_rfl
theorem FRef05.call45 : callB Tryd.prog 45 = true := by kernel_rfl
theorem FRef05.call46 : callB Tryd.prog 46 = true := by kernel_rfl
theorem FRef05.call48 : callB Tryd.prog 48 = true := by kernel_rfl
theorem FRef05.str9 : Tryd.prog.underlying 9 = some .string := by kernel_rfl
theorem letheref05_Three_ok {B : Nat} {w0 w : World} {L : List Rg} {iG2 : Nat} (hG2 : L[iG2]? = some ⟨some 2, 0, 8, fun q => VU .u64 (H64 q), false⟩) {iG3 : Nat} (hG3 : L[iG3]? = some ⟨some 3, 0, 64, fun q => VU .u64 (K64 q), false⟩) {key1 : Nat → BitVec 8} {r : ((List Byte) × (List Byte) × (Nat → BitVec 8))} (hR : letheref05_Three key1 r) (HST : St B w0 (L) w) :
  Calls Tryd.prog 44 #[AG [(32, fun q => VU .u8 (key1 q))]] w fun e w' => ∃ ry0 : Rg, ∃ ay0 : Option Addr, ∃ ny0 : Nat, ∃ cy0 : Nat, ∃ ay1 : Option Addr, ∃ ny1 : Nat, ∃ cy1 : Nat, e = .returned (.tuple #[.slice ay0 ny0 cy0, .slice ay1 ny1 cy1, AG [(16, fun q => VU .u8 (r.2.2 q))]]) ∧ St B w0 (ry0 :: L) w' ∧ Bx (ry0 :: L) 0 ay0 ny0 cy0 r.1 ∧ Bx (ry0 :: L) 0 ay1 ny1 cy1 r.2.1 := by
 refine W.enter 33 Tryd.func44 rfl rfl rfl ?_
 unfold letheref05_Three at hR
 refine W.seq_k fun _ k2 => W.regionT [(0, false), (1, true), (2, true), (3, false)] (by kernel_rfl) ?_
 refine Plan.boxA HST rfl rfl PIn.nil fun b3 w3 hb3 h3 => ?_
 simp only [rngs, Nat.zero_add, Nat.reduceAdd, zca, zna] at h3
 refine Plan.assign_slice rfl rfl <| Plan.assign_slice rfl rfl ?_
 refine Plan.alloc h3 rfl FRef05.z31 PIn.nil fun b4 w4 hb4 h4 => ?_
 simp only [rngs, Nat.zero_add, Nat.reduceAdd, zca, zna] at h4
 refine Plan.nil (k2 _ _ ?_); clear k2
 refine W.seq_k fun _ k5 => ?_
 obtain ⟨b69, hX70, hR070⟩ := hR
 refine W.cutN (fun e w => ∃ y_b69 : List Byte, (b69 = y_b69) ∧ ∃ rb69 : Rg, ∃ ab69 : Option Addr, ∃ cb69 : Nat, EnvHas e [(4, .pointer (some ⟨b4, 0, none⟩)), (5, .slice ab69 y_b69.length cb69)] ∧ St B w0 (rb69 :: ⟨some b4, 0, 16, fun q => VU .u8 ((fun _ => 0#8) q), true⟩ :: L) w ∧ Bx (rb69 :: ⟨some b4, 0, 16, fun q => VU .u8 ((fun _ => 0#8) q), true⟩ :: L) 0 ab69 y_b69.length cb69 y_b69) ?_ ?_
 ·
  replace hR := hX70
  refine W.regionF FRef05.mixed (.fork [(1, true)] (.line [(0, false), (2, false), (3, false), (4, false), (5, true), (6, true), (7, true), (8, true), (9, true)]) (.fork [(2, false)] (.line [(0, false), (3, false), (4, false), (5, true), (6, true), (7, true), (8, true), (9, true)]) (.line [(3, false), (0, false), (4, false), (5, true), (6, true), (7, true), (8, true), (9, true)]))) (by kernel_rfl) (PlanT.toFork ?_)
  have h71 := h4.drew
  refine Plan.slArrO (lo := 0) (hi := 32) (m := 32) (c := 32) (o' := 0) FRef05.arr22 rfl rfl rfl rfl (by omega) (by omega) (by omega) (by omega) ?_
  refine Plan.forked ?_ ?_
  ·
   refine PlanT.toLine ?_
   refine Plan.makeO (len := 32) (c := 32) h71 FRef05.el24 rfl rfl rfl (by omega) (by omega) (fun _ => EffO.keep PIn.nil) fun b79 w79 hb79 ho79 h79 => ?_
   refine Plan.constBytesO PIn.nil h79 (f := fun q => VU .u8 (lit ([108#8, 101#8, 116#8, 104#8, 101#8, 32#8, 115#8, 101#8, 97#8, 108#8] : List Byte) q)) FRef05.slu24 FRef05.u5 FRef05.sz5 FRef05.zv5 (by decide) (by decide) rfl (fun _ => rfl) (fun _ => rfl) rfl (by kernel_rfl) fun b80 w80 hb80 h80 => ?_
   rcases hR with ⟨x_82, x_83, hr81, hR⟩ | ⟨x_84, x_85, hr81, hR⟩
   ·
    refine Plan.call (vs := [.slice (some ⟨b79, 0, none⟩) ((List.replicate 32 0#8).length) 32, .slice (some ⟨b3, 0, none⟩) 32 32, .slice (some ⟨b80, 0, none⟩) 10 10, VN 80]) rfl FRef05.call55 rfl (letheref03_Derive_ok (iG2 := iG2 + 4) hG2 (iG3 := iG3 + 4) hG3 (by exact (ho79.bx 1 rfl)) (by exact (Bx.arr0 (n := 32) (cc := 32) 3 rfl (by omega) (by omega))) (by exact (Bx.arr0 (n := 10) (cc := 10) 0 rfl (by omega) (by omega))) hr81 h80) ?_
    rintro _ w91 ⟨ay0_86, py0_87, ny0_88, cy0_89, Fy0_90, rfl, h91, hf91_0⟩
    try dsimp only at hf91_0
    obtain rfl := hf91_0.hl
    refine ⟨_, rfl, .inl ⟨PIn.keep PIn.nil h91, ?_⟩⟩
    refine Plan.move_tuple rfl rfl <| Plan.extract_slice rfl rfl rfl <| Plan.extract_int rfl rfl rfl <| Plan.assign_slice rfl rfl <| Plan.assign_int rfl rfl <| Plan.nil ?_
    have h92 := St.pickT (C := [_, _, _, _, _]) h91 [0, 3] (by decide)
    simp only [pick, zfc, zfn, zgz, zgs, zca, zna] at h92
    exact ⟨x_82, hR, ⟨py0_87, 0, cy0_89, fun q => VU .u8 (Fy0_90 q), true⟩, ay0_86, cy0_89, (zer (zer zen)), h92, (hf91_0.bx 0 rfl)⟩
   ·
    refine Plan.call (vs := [.slice (some ⟨b79, 0, none⟩) ((List.replicate 32 0#8).length) 32, .slice (some ⟨b3, 0, none⟩) 32 32, .slice (some ⟨b80, 0, none⟩) 10 10, VN 80]) rfl FRef05.call55 rfl (letheref03_Derive_ok (iG2 := iG2 + 4) hG2 (iG3 := iG3 + 4) hG3 (by exact (ho79.bx 1 rfl)) (by exact (Bx.arr0 (n := 32) (cc := 32) 3 rfl (by omega) (by omega))) (by exact (Bx.arr0 (n := 10) (cc := 10) 0 rfl (by omega) (by omega))) hr81 h80) ?_
    rintro _ w97 ⟨ry0_93, ay0_94, ny0_95, cy0_96, rfl, h97, hf97_0⟩
    try dsimp only at hf97_0
    obtain rfl := hf97_0.hl
    refine ⟨_, rfl, .inl ⟨PIn.keep PIn.nil h97, ?_⟩⟩
    refine Plan.move_tuple rfl rfl <| Plan.extract_slice rfl rfl rfl <| Plan.extract_int rfl rfl rfl <| Plan.assign_slice rfl rfl <| Plan.assign_int rfl rfl <| Plan.nil ?_
    have h98 := St.pickT (C := [_, _, _, _, _]) h97 [0, 3] (by decide)
    simp only [pick, zfc, zfn, zgz, zgs, zca, zna] at h98
    exact ⟨x_84, hR, ry0_93, ay0_94, cy0_96, (zer (zer zen)), h98, (Bx.move (j := 0) hf97_0 rfl rfl)⟩
  ·
   refine PlanT.toFork ?_
   refine Plan.constBuild PIn.nil h71 (f := fun q => VU .u8 (lit ([108#8, 101#8, 116#8, 104#8, 101#8, 32#8, 115#8, 101#8, 97#8, 108#8] : List Byte) q)) FRef05.slu24 FRef05.sz5 FRef05.zv5 (by decide) (by decide) rfl rfl (by kernel_rfl) fun b99 w99 hb99 hk99 h99 => ?_
   refine Plan.forked ?_ ?_
   ·
    refine PlanT.toLine ?_
    refine Plan.makeK (m := 32) (c := 32) PIn.nil h99 FRef05.el24 rfl rfl rfl (by omega) (by omega) fun b100 w100 hb100 hw100 ho100 h100 => ?_
    have hk100_b99 := hw100 _ _ hk99
    refine Plan.constConv PIn.nil h100 hb99 hk100_b99 FRef05.slu24 FRef05.u5 rfl rfl fun w101 h101 => ?_
    rcases hR with ⟨x_103, x_104, hr102, hR⟩ | ⟨x_105, x_106, hr102, hR⟩
    ·
     refine Plan.call (vs := [.slice (some ⟨b100, 0, none⟩) ((List.replicate 32 0#8).length) 32, .slice (some ⟨b3, 0, none⟩) 32 32, .slice (some ⟨b99, 0, none⟩) 10 10, VN 80]) rfl FRef05.call55 rfl (letheref03_Derive_ok (iG2 := iG2 + 4) hG2 (iG3 := iG3 + 4) hG3 (by exact (ho100.bx 0 rfl)) (by exact (Bx.arr0 (n := 32) (cc := 32) 3 rfl (by omega) (by omega))) (by exact (Bx.arr0 (n := 10) (cc := 10) 1 rfl (by omega) (by omega))) hr102 h101) ?_
     rintro _ w112 ⟨ay0_107, py0_108, ny0_109, cy0_110, Fy0_111, rfl, h112, hf112_0⟩
     try dsimp only at hf112_0
     obtain rfl := hf112_0.hl
     refine ⟨_, rfl, .inl ⟨PIn.keep PIn.nil h112, ?_⟩⟩
     refine Plan.move_tuple rfl rfl <| Plan.extract_slice rfl rfl rfl <| Plan.extract_int rfl rfl rfl <| Plan.assign_slice rfl rfl <| Plan.assign_int rfl rfl <| Plan.nil ?_
     have h113 := St.pickT (C := [_, _, _, _, _]) h112 [0, 3] (by decide)
     simp only [pick, zfc, zfn, zgz, zgs, zca, zna] at h113
     exact ⟨x_103, hR, ⟨py0_108, 0, cy0_110, fun q => VU .u8 (Fy0_111 q), true⟩, ay0_107, cy0_110, (zer (zer zen)), h113, (hf112_0.bx 0 rfl)⟩
    ·
     refine Plan.call (vs := [.slice (some ⟨b100, 0, none⟩) ((List.replicate 32 0#8).length) 32, .slice (some ⟨b3, 0, none⟩) 32 32, .slice (some ⟨b99, 0, none⟩) 10 10, VN 80]) rfl FRef05.call55 rfl (letheref03_Derive_ok (iG2 := iG2 + 4) hG2 (iG3 := iG3 + 4) hG3 (by exact (ho100.bx 0 rfl)) (by exact (Bx.arr0 (n := 32) (cc := 32) 3 rfl (by omega) (by omega))) (by exact (Bx.arr0 (n := 10) (cc := 10) 1 rfl (by omega) (by omega))) hr102 h101) ?_
     rintro _ w118 ⟨ry0_114, ay0_115, ny0_116, cy0_117, rfl, h118, hf118_0⟩
     try dsimp only at hf118_0
     obtain rfl := hf118_0.hl
     refine ⟨_, rfl, .inl ⟨PIn.keep PIn.nil h118, ?_⟩⟩
     refine Plan.move_tuple rfl rfl <| Plan.extract_slice rfl rfl rfl <| Plan.extract_int rfl rfl rfl <| Plan.assign_slice rfl rfl <| Plan.assign_int rfl rfl <| Plan.nil ?_
     have h119 := St.pickT (C := [_, _, _, _, _]) h118 [0, 3] (by decide)
     simp only [pick, zfc, zfn, zgz, zgs, zca, zna] at h119
     exact ⟨x_105, hR, ry0_114, ay0_115, cy0_117, (zer (zer zen)), h119, (Bx.move (j := 0) hf118_0 rfl rfl)⟩
   ·
    refine PlanT.toLine ?_
    refine Plan.constConv PIn.nil h99 hb99 hk99 FRef05.slu24 FRef05.u5 rfl rfl fun w120 h120 => ?_
    refine Plan.makeO (len := 32) (c := 32) h120 FRef05.el24 rfl rfl rfl (by omega) (by omega) (fun _ => EffO.keep PIn.nil) fun b121 w121 hb121 ho121 h121 => ?_
    rcases hR with ⟨x_123, x_124, hr122, hR⟩ | ⟨x_125, x_126, hr122, hR⟩
    ·
     refine Plan.call (vs := [.slice (some ⟨b121, 0, none⟩) ((List.replicate 32 0#8).length) 32, .slice (some ⟨b3, 0, none⟩) 32 32, .slice (some ⟨b99, 0, none⟩) 10 10, VN 80]) rfl FRef05.call55 rfl (letheref03_Derive_ok (iG2 := iG2 + 4) hG2 (iG3 := iG3 + 4) hG3 (by exact (ho121.bx 0 rfl)) (by exact (Bx.arr0 (n := 32) (cc := 32) 3 rfl (by omega) (by omega))) (by exact (Bx.arr0 (n := 10) (cc := 10) 1 rfl (by omega) (by omega))) hr122 h121) ?_
     rintro _ w132 ⟨ay0_127, py0_128, ny0_129, cy0_130, Fy0_131, rfl, h132, hf132_0⟩
     try dsimp only at hf132_0
     obtain rfl := hf132_0.hl
     refine ⟨_, rfl, .inl ⟨PIn.keep PIn.nil h132, ?_⟩⟩
     refine Plan.move_tuple rfl rfl <| Plan.extract_slice rfl rfl rfl <| Plan.extract_int rfl rfl rfl <| Plan.assign_slice rfl rfl <| Plan.assign_int rfl rfl <| Plan.nil ?_
     have h133 := St.pickT (C := [_, _, _, _, _]) h132 [0, 3] (by decide)
     simp only [pick, zfc, zfn, zgz, zgs, zca, zna] at h133
     exact ⟨x_123, hR, ⟨py0_128, 0, cy0_130, fun q => VU .u8 (Fy0_131 q), true⟩, ay0_127, cy0_130, (zer (zer zen)), h133, (hf132_0.bx 0 rfl)⟩
    ·
     refine Plan.call (vs := [.slice (some ⟨b121, 0, none⟩) ((List.replicate 32 0#8).length) 32, .slice (some ⟨b3, 0, none⟩) 32 32, .slice (some ⟨b99, 0, none⟩) 10 10, VN 80]) rfl FRef05.call55 rfl (letheref03_Derive_ok (iG2 := iG2 + 4) hG2 (iG3 := iG3 + 4) hG3 (by exact (ho121.bx 0 rfl)) (by exact (Bx.arr0 (n := 32) (cc := 32) 3 rfl (by omega) (by omega))) (by exact (Bx.arr0 (n := 10) (cc := 10) 1 rfl (by omega) (by omega))) hr122 h121) ?_
     rintro _ w138 ⟨ry0_134, ay0_135, ny0_136, cy0_137, rfl, h138, hf138_0⟩
     try dsimp only at hf138_0
     obtain rfl := hf138_0.hl
     refine ⟨_, rfl, .inl ⟨PIn.keep PIn.nil h138, ?_⟩⟩
     refine Plan.move_tuple rfl rfl <| Plan.extract_slice rfl rfl rfl <| Plan.extract_int rfl rfl rfl <| Plan.assign_slice rfl rfl <| Plan.assign_int rfl rfl <| Plan.nil ?_
     have h139 := St.pickT (C := [_, _, _, _, _]) h138 [0, 3] (by decide)
     simp only [pick, zfc, zfn, zgz, zgs, zca, zna] at h139
     exact ⟨x_125, hR, ry0_134, ay0_135, cy0_137, (zer (zer zen)), h139, (Bx.move (j := 0) hf138_0 rfl rfl)⟩
 ·
  rintro ev140 wl140 ⟨y_b69, hy140_0, rb69, ab69, cb69, he140, h140, hb69⟩
  subst hy140_0
  obtain ⟨ev140, rfl⟩ := he140.open
  replace hR := hR070
  refine k5 _ _ ?_; clear k5
  refine W.seq_k fun _ k141 => W.regionT [(0, false)] (by kernel_rfl) ?_
  refine Plan.alloc h140 rfl FRef05.z31 PIn.nil fun b142 w142 hb142 h142 => ?_
  simp only [rngs, Nat.zero_add, Nat.reduceAdd, zca, zna] at h142
  refine Plan.nil (k141 _ _ ?_); clear k141
  refine W.seq_k fun _ k143 => W.seq_k fun _ k144 => ?_
  refine W.regionT [(0, true)] (by kernel_rfl) ?_
  refine Plan.assign_int rfl rfl <| Plan.nil (k144 _ _ ?_); clear k144
  obtain ⟨m162, hI163, hR0163⟩ := hR
  refine W.cutN (fun e w => ∃ y_m162 : Nat → BitVec 8, m162 = y_m162 ∧ EnvHas e [(4, .pointer (some ⟨b4, 0, none⟩)), (5, .slice ab69 b69.length cb69), (7, .pointer (some ⟨b142, 0, none⟩))] ∧ St B w0 (⟨some b142, 0, 16, fun q => VU .u8 (y_m162 q), true⟩ :: rb69 :: ⟨some b4, 0, 16, fun q => VU .u8 ((fun _ => 0#8) q), true⟩ :: L) w) ?_ ?_
  ·
   refine W.block ?_
   refine W.iter hI163 (fun (s163 : (Nat × (Nat → BitVec 8))) e w => EnvHas e [(4, .pointer (some ⟨b4, 0, none⟩)), (5, .slice ab69 b69.length cb69), (7, .pointer (some ⟨b142, 0, none⟩)), (8, VN s163.1)] ∧ St B w0 (⟨some b142, 0, 16, fun q => VU .u8 (s163.2 q), true⟩ :: rb69 :: ⟨some b4, 0, 16, fun q => VU .u8 ((fun _ => 0#8) q), true⟩ :: L) w) ⟨(zer (zer (zer (zer zen)))), h142⟩ ?_
   rintro ⟨i_160, m161⟩ o163 hR hx163 ev164 wl164 ⟨he164, h164⟩
   obtain ⟨ev164, rfl⟩ := he164.open
   unfold letheref05_Three_l0 at hR
   refine W.seq_k fun _ k165 => W.seq_k fun _ k166 => ?_
   refine W.regionT [(0, true), (1, true)] (by kernel_rfl) ?_
   refine Plan.move_int rfl rfl <| Plan.cmpP (a := (((i_160 : Nat) : Int) : Int)) (b := (16 : Int)) (p := i_160 < 16) rfl rfl rfl rfl icmp_ltN <| Plan.nil (k166 _ _ ?_); clear k166
   by_cases hc167 : i_160 < 16
   ·
    replace hR := ifT hR hc167
    refine W.condT (congrArg Value.bool (decide_eq_true hc167)) ?_
    refine W.skip ?_
    refine k165 _ _ ?_; clear k165
    refine W.seq_k fun _ k168 => ?_
    refine W.block ?_
    refine W.regionT [(0, true), (1, true), (2, true), (3, true), (4, true), (5, true), (6, true), (7, false)] (by kernel_rfl) ?_
    refine Plan.move_int rfl rfl <| Plan.move_slice rfl rfl <| Plan.move_int rfl rfl <| Plan.addN (a := 64) (b := i_160) rfl rfl rfl (by omega) ?_
    obtain ⟨hc169, hR⟩ := hR
    refine Plan.idxVS (j := (64 + i_160)) h164 (Bx.move (j := 1) hb69 rfl rfl) FRef05.sl24 rfl rfl rfl hc169 ?_
    refine Plan.loadV (j := (64 + i_160)) h164 (Bx.move (j := 1) hb69 rfl rfl) rfl rfl hc169 FRef05.sc5 fun r170 hr170 => ?_
    refine Plan.idxArr1 (j := i_160) FRef05.arr31 rfl rfl rfl (by omega) ?_
    refine Plan.storeU (j := i_160) (X := (lit b69 (64 + i_160))) h164 0 rfl rfl rfl rfl (by omega) FRef05.sz5 rfl fun w171 h171 => ?_
    simp only [zca, zna, zsz, zss] at h171
    refine Plan.nil ?_
    refine blockR_norm ?_
    refine k168 _ _ ?_; clear k168
    refine W.regionT [(0, true), (1, true), (2, true)] (by kernel_rfl) ?_
    refine Plan.move_int rfl rfl <| Plan.addN (a := i_160) (b := 1) rfl rfl rfl (by omega) <| Plan.assign_int rfl rfl <| Plan.nil ?_
    exact iterR_norm ⟨_, hR, (zer (zer (zer (zer zen)))), h171⟩
   ·
    replace hR := ifF hR hc167
    refine W.condF (congrArg Value.bool (decide_eq_false hc167)) ?_
    refine W.exit (thenR_exit (iterR_exit (blockR_here ?_)))
    exact ⟨m161, (hx163 _ hR).symm, (zer (zer (zer zen))), h164⟩
  ·
   rintro ev172 wl172 ⟨y_m162, hy172, he172, h172⟩
   obtain ⟨ev172, rfl⟩ := he172.open
   subst hy172
   replace hR := hR0163
   refine k143 _ _ ?_; clear k143
   refine W.seq_k fun _ k173 => ?_
   refine W.regionD FRef05.mixed [(0, true), (1, true), (2, true), (3, true), (4, true), (5, true), (6, true), (7, false)] (by kernel_rfl) ?_
   have h174 := h172.drew
   refine Plan.move_slice rfl rfl ?_
   obtain ⟨hc175, hR⟩ := hR
   refine Plan.slV (lo := 0) (hi := 32) hb69 FRef05.sl24 rfl rfl rfl ⟨_, rfl⟩ hc175 fun a176 c176 hv176 => ?_
   refine Plan.move_slice rfl rfl ?_
   obtain ⟨hc177, hR⟩ := hR
   refine Plan.slV (lo := 32) (hi := 64) hb69 FRef05.sl24 rfl rfl ⟨_, rfl⟩ ⟨_, rfl⟩ hc177 fun a178 c178 hv178 => ?_
   refine Plan.loadA1 h174 0 rfl rfl rfl FRef05.agg31 <| Plan.assign_slice rfl rfl <| Plan.assign_slice rfl rfl ?_
   refine Plan.storeA (f' := fun q => VU .u8 (m162 q)) h174 2 rfl rfl rfl rfl (fun _ _ => rfl) FRef05.sz31 rfl fun w179 h179 => ?_
   simp only [zca, zna, zsz, zss] at h179
   refine Plan.nil (k173 _ _ ?_); clear k173
   refine W.ret (finR_ret ?_)
   have h180 := St.pickT (C := [_, _, _]) h179 [1] (by decide)
   simp only [pick, zfc, zfn, zgz, zgs, zca, zna] at h180
   subst r
   refine RetOk.mk (.tmp_slice rfl (.tmp_slice rfl (.agg h179 rfl (.cons 2 rfl .nil) FRef05.agg31 .nil))) ?_
   exact ⟨rb69, a176, (seg b69 0 32).length, c176, a178, (seg b69 32 64).length, c178, rfl, h180, (Bx.move (j := 0) hv176 rfl rfl), (Bx.move (j := 0) hv178 rfl rfl)⟩
theorem letheref05_Tag_ok {B : Nat} {w0 w : World} {L : List Rg} {iG2 : Nat} (hG2 : L[iG2]? = some ⟨some 2, 0, 8, fun q => VU .u64 (H64 q), false⟩) {iG3 : Nat} (hG3 : L[iG3]? = some ⟨some 3, 0, 64, fun q => VU .u64 (K64 q), false⟩) {tagKey1 : List Byte} {atagKey1 : Option Addr} {ntagKey1 ctagKey1 itagKey1 : Nat} (htagKey1 : Bx L itagKey1 atagKey1 ntagKey1 ctagKey1 tagKey1) {data2 : List Byte} {adata2 : Option Addr} {ndata2 cdata2 idata2 : Nat} (hdata2 : Bx L idata2 adata2 ndata2 cdata2 data2) {c3 : List Byte} {ac3 : Option Addr} {nc3 cc3 ic3 : Nat} (hc3 : Bx L ic3 ac3 nc3 cc3 c3) {r : (List Byte)} (hR : letheref05_Tag tagKey1 data2 c3 r) (HST : St B w0 (L) w) :
  Calls Tryd.prog 48 #[.slice atagKey1 ntagKey1 ctagKey1, .slice adata2 ndata2 cdata2, .slice ac3 nc3 cc3] w fun e w' => ∃ ay0 : Option Addr, ∃ py0 : Option Nat, ∃ ny0 : Nat, ∃ cy0 : Nat, ∃ Fy0 : Nat → Byte, e = .returned (.slice ay0 ny0 cy0) ∧ St B w0 (⟨py0, 0, cy0, fun q => VU .u8 (Fy0 q), true⟩ :: L) w' ∧ Ow ay0 py0 ny0 cy0 Fy0 r := by
 refine W.enter 34 Tryd.func48 rfl rfl rfl ?_
 unfold letheref05_Tag at hR
 have etagKey1 := htagKey1.hl; subst etagKey1
 have edata2 := hdata2.hl; subst edata2
 have ec3 := hc3.hl; subst ec3
 refine W.seq_k fun _ k4 => W.regionT [(0, true)] (by kernel_rfl) ?_
 refine Plan.assign_slice rfl rfl <| Plan.nil (k4 _ _ ?_); clear k4
 refine W.seq_k fun _ k5 => W.regionT [(0, false), (1, true)] (by kernel_rfl) ?_
 refine Plan.makeO (len := 8) (c := 8) HST FRef05.el24 rfl rfl rfl (by omega) (by omega) (fun _ => EffO.keep PIn.nil) fun b6 w6 hb6 ho6 h6 => ?_
 refine Plan.assign_slice rfl rfl <| Plan.nil (k5 _ _ ?_); clear k5
 refine W.seq_k fun _ k7 => W.regionT [(0, true), (1, true), (2, true)] (by kernel_rfl) ?_
 refine Plan.move_slice rfl rfl <| Plan.len FRef05.isl24 rfl rfl <| Plan.assign_int rfl rfl <| Plan.nil (k7 _ _ ?_); clear k7
 refine W.seq_k fun _ k8 => W.seq_k fun _ k9 => ?_
 refine W.regionT [(0, true)] (by kernel_rfl) ?_
 refine Plan.assign_int rfl rfl <| Plan.nil (k9 _ _ ?_); clear k9
 obtain ⟨long45, hI46, hR046⟩ := hR
 refine W.cutN (fun e w => ∃ y_long45 : List Byte, long45 = y_long45 ∧ ∃ along45 : Option Addr, ∃ plong45 : Option Nat, ∃ clong45 : Nat, ∃ Flong45 : Nat → Byte, EnvHas e [(0, .slice atagKey1 tagKey1.length ctagKey1), (1, .slice adata2 data2.length cdata2), (2, .slice ac3 c3.length cc3), (7, .slice along45 ((List.replicate 8 0#8).length) clong45)] ∧ St B w0 (⟨plong45, 0, clong45, fun q => VU .u8 (Flong45 q), true⟩ :: L) w ∧ Ow along45 plong45 ((List.replicate 8 0#8).length) clong45 Flong45 y_long45) ?_ ?_
 ·
  refine W.block ?_
  refine W.iter hI46 (fun (s46 : ((List Byte) × Nat × Int)) e w => ∃ along42 : Option Addr, ∃ plong42 : Option Nat, ∃ clong42 : Nat, ∃ Flong42 : Nat → Byte, EnvHas e [(0, .slice atagKey1 tagKey1.length ctagKey1), (1, .slice adata2 data2.length cdata2), (2, .slice ac3 c3.length cc3), (7, .slice along42 ((List.replicate 8 0#8).length) clong42), (8, VN s46.2.1), (9, .int .i64 s46.2.2)] ∧ St B w0 (⟨plong42, 0, clong42, fun q => VU .u8 (Flong42 q), true⟩ :: L) w ∧ Ow along42 plong42 ((List.replicate 8 0#8).length) clong42 Flong42 s46.1) ⟨some ⟨b6, 0, none⟩, some b6, 8, (fun _ => 0#8), (zer (zer (zer (zer (zer (zer zen)))))), h6, ho6⟩ ?_
  rintro ⟨long42, n_43, i_44⟩ o46 hR hx46 ev47 wl47 ⟨along42, plong42, clong42, Flong42, he47, h47, hlong42⟩
  obtain ⟨ev47, rfl⟩ := he47.open
  unfold letheref05_Tag_l0 at hR
  refine W.seq_k fun _ k48 => W.seq_k fun _ k49 => ?_
  refine W.regionT [(0, true), (1, true)] (by kernel_rfl) ?_
  refine Plan.move_int rfl rfl <| Plan.cmpP (a := (i_44 : Int)) (b := (0 : Int)) (p := 0 ≤ i_44) rfl rfl rfl rfl icmp_ge <| Plan.nil (k49 _ _ ?_); clear k49
  by_cases hc50 : 0 ≤ i_44
  ·
   replace hR := ifT hR hc50
   refine W.condT (congrArg Value.bool (decide_eq_true hc50)) ?_
   refine W.skip ?_
   refine k48 _ _ ?_; clear k48
   refine W.seq_k fun _ k51 => ?_
   refine W.block ?_
   refine W.seq_k fun _ k52 => W.regionT [(0, true), (1, true), (2, true), (3, true), (4, true), (5, true), (6, false)] (by kernel_rfl) ?_
   refine Plan.move_slice rfl rfl <| Plan.move_int rfl rfl <| Plan.move_int rfl rfl <| Plan.remN (a := n_43) (b := 256) rfl rfl rfl (by omega) <| Plan.convNU .u8 (a := (n_43 % 256)) FRef05.u5 FRef05.some3 rfl rfl ?_
   obtain ⟨hc53, hR⟩ := hR
   refine Plan.idxVS (j := i_44.toNat) h47 (hlong42.bx 0 rfl) FRef05.sl24 rfl rfl (congrArg (Value.int .i64) (Int.toNat_of_nonneg hc53.1).symm) (toNat_lt hc53.1 hc53.2) ?_
   refine Plan.storeO (j := i_44.toNat) (Y := (BitVec.ofNat 8 (n_43 % 256))) h47 0 hlong42 rfl rfl rfl rfl (toNat_lt hc53.1 hc53.2) FRef05.sz5 rfl fun w54 F54 ho54 h54 => ?_
   simp only [zca, zna, zsz, zss] at h54
   have e54 : (long42.set i_44.toNat (BitVec.ofNat 8 (n_43 % 256))).length = long42.length := List.length_set
   refine Plan.nil (k52 _ _ ?_); clear k52
   refine W.regionT [(0, true), (1, true), (2, true)] (by kernel_rfl) ?_
   refine Plan.move_int rfl rfl ?_
   obtain ⟨hc55, hR⟩ := hR
   refine Plan.quoN (a := n_43) (b := 256) rfl rfl rfl (by omega) <| Plan.assign_int rfl rfl <| Plan.nil ?_
   refine blockR_norm ?_
   refine k51 _ _ ?_; clear k51
   refine W.regionT [(0, true), (1, true), (2, true)] (by kernel_rfl) ?_
   refine Plan.move_int rfl rfl ?_
   obtain ⟨hc56, hR⟩ := hR
   refine Plan.subI (a := i_44) (b := 1) rfl rfl rfl (by omega) <| Plan.assign_int rfl rfl <| Plan.nil ?_
   exact iterR_norm ⟨_, hR, along42, plong42, clong42, F54, (zer (zer (zer (zer (zer (zer zen)))))), h54, (show Ow _ _ ((List.replicate 8 0#8).length) _ _ _ from ho54)⟩
  ·
   replace hR := ifF hR hc50
   refine W.condF (congrArg Value.bool (decide_eq_false hc50)) ?_
   refine W.exit (thenR_exit (iterR_exit (blockR_here ?_)))
   exact ⟨long42, (hx46 _ hR).symm, along42, plong42, clong42, Flong42, (zer (zer (zer (zer zen)))), h47, hlong42⟩
 ·
  rintro ev57 wl57 ⟨y_long45, hy57, along45, plong45, clong45, Flong45, he57, h57, hlong45⟩
  obtain ⟨ev57, rfl⟩ := he57.open
  subst hy57
  replace hR := hR046
  refine k8 _ _ ?_; clear k8
  refine W.seq_k fun _ k58 => W.regionT [(0, true), (1, true), (2, true), (3, true), (4, false), (5, false), (6, false), (7, false), (8, false)] (by kernel_rfl) ?_
  refine Plan.move_slice rfl rfl <| Plan.move_slice rfl rfl <| Plan.move_slice rfl rfl <| Plan.move_slice rfl rfl ?_
  refine Plan.buildSlice h57 (ps := [(3, fun i => .slice ((fun i => ([adata2, ac3, along45] : List (Option Addr)).getD i none) i) ((fun i => ([data2.length, c3.length, (List.replicate 8 0#8).length] : List Nat).getD i 0) i) ((fun i => ([cdata2, cc3, clong45] : List Nat).getD i 0) i))]) FRef05.slu40 FRef05.sz24 FRef05.zv24 (by decide) (by decide) rfl rfl rfl (EffO.keep PIn.nil) fun b60 w60 hb60 h60 => ?_
  simp only [rngs, List.cons_append, List.nil_append] at h60
  obtain ⟨x_62, hr61, hR⟩ := hR
  refine Plan.call (vs := [.slice (some ⟨b60, 0, none⟩) 3 3]) rfl FRef05.call47 rfl (letheref03_Joined_ok (by exact (Bss.of 0 rfl rfl (fun i hi => match i, hi with | 0, _ => ⟨_, (hdata2.app [_, _])⟩ | 1, _ => ⟨_, (hc3.app [_, _])⟩ | 2, _ => ⟨_, (hlong45.bx 1 rfl)⟩ | k + 3, hk => absurd hk (by omega)))) hr61 h60) ?_
  rintro _ w68 ⟨ay0_63, py0_64, ny0_65, cy0_66, Fy0_67, rfl, h68, hf68_0⟩
  obtain rfl := hf68_0.hl
  refine ⟨_, rfl, .inl ⟨PIn.keep PIn.nil h68, ?_⟩⟩
  obtain ⟨x_70, hr69, hR⟩ := hR
  refine Plan.call (vs := [.slice atagKey1 tagKey1.length ctagKey1, .slice ay0_63 x_62.length cy0_66]) rfl FRef05.call59 rfl (letheref03_Mac_ok (iG2 := iG2 + 3) hG2 (iG3 := iG3 + 3) hG3 (htagKey1.app [_, _, _]) (by exact (hf68_0.bx 0 rfl)) hr69 h68) ?_
  rintro _ w71 ⟨rfl, h71⟩
  refine ⟨_, rfl, .inl ⟨PIn.keep PIn.nil h71, ?_⟩⟩
  refine Plan.alloc h71 rfl FRef05.z22 PIn.nil fun b72 w72 hb72 h72 => ?_
  simp only [rngs, Nat.zero_add, Nat.reduceAdd, zca, zna] at h72
  refine Plan.storeA (f' := fun q => VU .u8 (x_70 q)) h72 0 rfl rfl rfl rfl (fun _ _ => rfl) FRef05.sz22 rfl fun w73 h73 => ?_
  simp only [zca, zna, zsz, zss] at h73
  refine Plan.nil (k58 _ _ ?_); clear k58
  refine W.seq_k fun _ k74 => W.regionT [(0, true), (1, true)] (by kernel_rfl) ?_
  refine Plan.slArrO (lo := 0) (hi := 32) (m := 32) (c := 32) (o' := 0) FRef05.arr22 rfl rfl rfl rfl (by omega) (by omega) (by omega) (by omega) <| Plan.assign_slice rfl rfl <| Plan.nil (k74 _ _ ?_); clear k74
  refine W.ret (finR_ret ?_)
  have h75 := St.pickT (C := [_, _, _, _]) h73 [0] (by decide)
  simp only [pick, zfc, zfn, zgz, zgs, zca, zna] at h75
  subst r
  refine RetOk.mk (.tmp_slice rfl .nil) ?_
  exact ⟨some ⟨b72, 0, none⟩, some b72, 32, 32, x_70, rfl, h75, Ow.arr⟩
theorem letheref05_Seal_ok {B : Nat} {w0 w : World} {L : List Rg} {iG2 : Nat} (hG2 : L[iG2]? = some ⟨some 2, 0, 8, fun q => VU .u64 (H64 q), false⟩) {iG3 : Nat} (hG3 : L[iG3]? = some ⟨some 3, 0, 64, fun q => VU .u64 (K64 q), false⟩) {key1 : Nat → BitVec 8} {data2 : List Byte} {adata2 : Option Addr} {ndata2 cdata2 idata2 : Nat} (hdata2 : Bx L idata2 adata2 ndata2 cdata2 data2) {text3 : List Byte} {atext3 : Option Addr} {ntext3 ctext3 itext3 : Nat} (htext3 : Bx L itext3 atext3 ntext3 ctext3 text3) {r : ((List Byte) × Nat)} (hR : letheref05_Seal key1 data2 text3 r) (HST : St B w0 (L) w) :
  Calls Tryd.prog 28 #[AG [(32, fun q => VU .u8 (key1 q))], .slice adata2 ndata2 cdata2, .slice atext3 ntext3 ctext3] w fun e w' => ∃ ay0 : Option Addr, ∃ py0 : Option Nat, ∃ ny0 : Nat, ∃ cy0 : Nat, ∃ Fy0 : Nat → Byte, e = .returned (.tuple #[.slice ay0 ny0 cy0, VN r.2]) ∧ St B w0 (⟨py0, 0, cy0, fun q => VU .u8 (Fy0 q), true⟩ :: L) w' ∧ Ow ay0 py0 ny0 cy0 Fy0 r.1 := by
 refine W.enter 38 Tryd.func28 rfl rfl rfl ?_
 unfold letheref05_Seal at hR
 have edata2 := hdata2.hl; subst edata2
 have etext3 := htext3.hl; subst etext3
 refine W.seq_k fun _ k4 => W.regionT [(0, false), (1, true), (2, true)] (by kernel_rfl) ?_
 refine Plan.boxA HST rfl rfl PIn.nil fun b5 w5 hb5 h5 => ?_
 simp only [rngs, Nat.zero_add, Nat.reduceAdd, zca, zna] at h5
 refine Plan.assign_slice rfl rfl <| Plan.assign_int rfl rfl <| Plan.nil (k4 _ _ ?_); clear k4
 refine W.seq_k fun _ k6 => W.seq_k fun _ k12 => ?_
 refine W.regionT [(0, true), (1, true), (2, true), (3, true), (4, true), (5, true), (6, true), (7, true)] (by kernel_rfl) ?_
 refine Plan.move_slice rfl rfl <| Plan.len FRef05.isl24 rfl rfl ?_
 by_cases hc13 : 512 < text3.length
 ·
  replace hR := ifT hR hc13
  refine Plan.cmpV (a := (((text3.length : Nat) : Int) : Int)) (b := (512 : Int)) (p := 512 < text3.length) (v := true) rfl rfl rfl rfl icmp_gtN (decide_eq_true hc13) <| Plan.move_bool rfl rfl <| Plan.passed rfl <| Plan.passed rfl <| Plan.passed rfl <| Plan.pickTb rfl rfl rfl <| Plan.nil (k12 _ _ ?_); clear k12
  refine W.condT rfl ?_
  refine W.seq_k fun _ k14 => W.regionT [(0, true), (1, true)] (by kernel_rfl) ?_
  refine Plan.assign_slice rfl rfl <| Plan.assign_int rfl rfl <| Plan.nil (k14 _ _ ?_); clear k14
  refine W.ret (thenR_ret (finR_ret ?_))
  have h15 := h5.nilR
  have h16 := St.pickT (C := [_, _]) h15 [0] (by decide)
  simp only [pick, zfc, zfn, zgz, zgs, zca, zna] at h16
  subst r
  refine RetOk.mk (.tmp_slice rfl (.tmp_int rfl .nil)) ?_
  exact ⟨none, none, 0, 0, (fun _ => 0#8), rfl, h16, Ow.nil⟩
 ·
  replace hR := ifF hR hc13
  refine Plan.cmpV (a := (((text3.length : Nat) : Int) : Int)) (b := (512 : Int)) (p := 512 < text3.length) (v := false) rfl rfl rfl rfl icmp_gtN (decide_eq_false hc13) <| Plan.move_bool rfl rfl <| Plan.move_slice rfl rfl <| Plan.len FRef05.isl24 rfl rfl <| Plan.cmpP (a := (((data2.length : Nat) : Int) : Int)) (b := (65535 : Int)) (p := 65535 < data2.length) rfl rfl rfl rfl icmp_gtN <| Plan.pickFb rfl rfl rfl <| Plan.nil (k12 _ _ ?_); clear k12
  by_cases hc17 : 65535 < data2.length
  ·
   replace hR := ifT hR hc17
   refine W.condT (congrArg Value.bool (decide_eq_true hc17)) ?_
   refine W.seq_k fun _ k18 => W.regionT [(0, true), (1, true)] (by kernel_rfl) ?_
   refine Plan.assign_slice rfl rfl <| Plan.assign_int rfl rfl <| Plan.nil (k18 _ _ ?_); clear k18
   refine W.ret (thenR_ret (finR_ret ?_))
   have h19 := h5.nilR
   have h20 := St.pickT (C := [_, _]) h19 [0] (by decide)
   simp only [pick, zfc, zfn, zgz, zgs, zca, zna] at h20
   subst r
   refine RetOk.mk (.tmp_slice rfl (.tmp_int rfl .nil)) ?_
   exact ⟨none, none, 0, 0, (fun _ => 0#8), rfl, h20, Ow.nil⟩
  ·
   replace hR := ifF hR hc17
   refine W.condF (congrArg Value.bool (decide_eq_false hc17)) ?_
   refine W.skip ?_
   refine k6 _ _ ?_; clear k6
   refine W.seq_k fun _ k21 => W.regionT [(0, true), (1, false), (2, true), (3, true), (4, true), (5, true), (6, false), (7, true), (8, true), (9, false)] (by kernel_rfl) ?_
   refine Plan.loadA1 h5 0 rfl rfl rfl FRef05.agg22 ?_
   obtain ⟨x_23, x_24, x_25, hr22, hR⟩ := hR
   refine Plan.call (vs := [AG [(32, fun q => VU .u8 (key1 q))]]) rfl FRef05.call44 rfl (letheref05_Three_ok (iG2 := iG2 + 1) hG2 (iG3 := iG3 + 1) hG3 hr22 h5) ?_
   rintro _ w33 ⟨ry0_26, ay0_27, ny0_28, cy0_29, ay1_30, ny1_31, cy1_32, rfl, h33, hf33_0, hf33_1⟩
   try dsimp only at hf33_0 hf33_1
   obtain rfl := hf33_0.hl
   obtain rfl := hf33_1.hl
   refine ⟨_, rfl, .inr ⟨rfl, ?_⟩⟩
   refine Plan.move_tuple rfl rfl <| Plan.extract_slice rfl rfl rfl <| Plan.extract_slice rfl rfl rfl <| Plan.extract_agg rfl rfl rfl ?_
   refine Plan.alloc h33 rfl FRef05.z31 PIn.nil fun b34 w34 hb34 h34 => ?_
   simp only [rngs, Nat.zero_add, Nat.reduceAdd, zca, zna] at h34
   refine Plan.assign_slice rfl rfl <| Plan.assign_slice rfl rfl ?_
   refine Plan.storeA (f' := fun q => VU .u8 (x_25 q)) h34 0 rfl rfl rfl rfl (fun _ _ => rfl) FRef05.sz31 rfl fun w35 h35 => ?_
   simp only [zca, zna, zsz, zss] at h35
   refine Plan.nil (k21 _ _ ?_); clear k21
   refine W.seq_k fun _ k36 => ?_
   refine W.regionD FRef05.mixed [(0, true), (2, true), (3, true), (1, false), (4, false), (5, true)] (by kernel_rfl) ?_
   have h37 := h35.drew
   refine Plan.move_slice rfl rfl <| Plan.loadA1 h37 0 rfl rfl rfl FRef05.agg31 <| Plan.move_slice rfl rfl ?_
   rcases hR with ⟨hr38, hR⟩ | ⟨x_39, x_40, x_41, hr38, hR⟩
   ·
    refine Plan.call (vs := [.slice ay0_27 x_23.length cy0_29]) rfl FRef05.call45 rfl (letheref04_New_ok (by exact (Bx.move (j := 1) hf33_0 rfl rfl)) hr38 h37) ?_
    rintro _ w42 ⟨rfl, h42⟩
    refine ⟨_, rfl, .inl ⟨PIn.keep (PIn.cons 0 rfl PIn.nil) h42, ?_⟩⟩
    exact hR.elim
   ·
    refine Plan.call (vs := [.slice ay0_27 x_23.length cy0_29]) rfl FRef05.call45 rfl (letheref04_New_ok (by exact (Bx.move (j := 1) hf33_0 rfl rfl)) hr38 h37) ?_
    rintro _ w49 ⟨b0_43, aw0_0_44, pw0_0_45, nw0_0_46, cw0_0_47, Fw0_0_48, rfl, h49, hf49_0⟩
    try dsimp only at hf49_0
    obtain rfl := hf49_0.hl
    refine ⟨_, rfl, .inl ⟨PIn.keep (PIn.cons 4 rfl PIn.nil) h49, ?_⟩⟩
    have h50 := St.pickT (C := [_, _, _, _, _, _, _]) h49 [0, 2, 3, 1, 4, 5, 6] (by decide)
    simp only [pick, zfc, zfn, zgz, zgs, zca, zna] at h50
    obtain ⟨x_52, hr51, hR⟩ := hR
    refine Plan.call (vs := [.pointer (some ⟨b0_43, 0, none⟩), AG [(16, fun q => VU .u8 (x_25 q))], .slice atext3 text3.length ctext3]) rfl FRef05.call46 rfl (letheref04_Cipher_Hide_ok (by exact (LO.lvf D87_flat hf49_0 0 rfl)) (htext3.app [_, _, _, _]) hr51 h50) ?_
    rintro _ w58 ⟨ay0_53, py0_54, ny0_55, cy0_56, Fy0_57, rfl, h58, hf58_0⟩
    obtain rfl := hf58_0.hl
    refine ⟨_, rfl, .inr ⟨rfl, ?_⟩⟩
    refine Plan.assign_slice rfl rfl <| Plan.nil (k36 _ _ ?_); clear k36
    refine W.seq_k fun _ k59 => W.regionT [(0, true), (1, true), (2, true), (3, true), (4, false), (5, false), (6, false), (7, true), (8, true)] (by kernel_rfl) ?_
    refine Plan.move_slice rfl rfl <| Plan.move_slice rfl rfl <| Plan.move_slice rfl rfl <| Plan.move_slice rfl rfl ?_
    obtain ⟨x_61, hr60, hR⟩ := hR
    refine Plan.call (vs := [.slice ay1_30 x_24.length cy1_32, .slice adata2 data2.length cdata2, .slice ay0_53 x_52.length cy0_56]) rfl FRef05.call48 rfl (letheref05_Tag_ok (iG2 := iG2 + 8) hG2 (iG3 := iG3 + 8) hG3 (by exact (Bx.move (j := 6) hf33_1 rfl rfl)) (hdata2.app [_, _, _, _, _, _, _, _]) (by exact (hf58_0.bx 0 rfl)) hr60 h58) ?_
    rintro _ w67 ⟨ay0_62, py0_63, ny0_64, cy0_65, Fy0_66, rfl, h67, hf67_0⟩
    obtain rfl := hf67_0.hl
    refine ⟨_, rfl, .inl ⟨PIn.keep PIn.nil h67, ?_⟩⟩
    refine Plan.buildSlice h67 (ps := [(2, fun i => .slice ((fun i => ([ay0_53, ay0_62] : List (Option Addr)).getD i none) i) ((fun i => ([x_52.length, x_61.length] : List Nat).getD i 0) i) ((fun i => ([cy0_56, cy0_65] : List Nat).getD i 0) i))]) FRef05.slu40 FRef05.sz24 FRef05.zv24 (by decide) (by decide) rfl rfl rfl (EffO.keep PIn.nil) fun b69 w69 hb69 h69 => ?_
    simp only [rngs, List.cons_append, List.nil_append] at h69
    obtain ⟨x_71, hr70, hR⟩ := hR
    refine Plan.call (vs := [.slice (some ⟨b69, 0, none⟩) 2 2]) rfl FRef05.call47 rfl (letheref03_Joined_ok (by exact (Bss.of 0 rfl rfl (fun i hi => match i, hi with | 0, _ => ⟨_, (hf58_0.bx 2 rfl)⟩ | 1, _ => ⟨_, (hf67_0.bx 1 rfl)⟩ | k + 2, hk => absurd hk (by omega)))) hr70 h69) ?_
    rintro _ w77 ⟨ay0_72, py0_73, ny0_74, cy0_75, Fy0_76, rfl, h77, hf77_0⟩
    obtain rfl := hf77_0.hl
    refine ⟨_, rfl, .inl ⟨PIn.keep PIn.nil h77, ?_⟩⟩
    refine Plan.assign_slice rfl rfl <| Plan.assign_int rfl rfl <| Plan.nil (k59 _ _ ?_); clear k59
    refine W.ret (finR_ret ?_)
    have h78 := St.pickT (C := [_, _, _, _, _, _, _, _, _, _, _]) h77 [0] (by decide)
    simp only [pick, zfc, zfn, zgz, zgs, zca, zna] at h78
    subst r
    refine RetOk.mk (.tmp_slice rfl (.tmp_int rfl .nil)) ?_
    exact ⟨ay0_72, py0_73, x_71.length, cy0_75, Fy0_76, rfl, h78, hf77_0⟩
theorem letheref05_Open_ok {B : Nat} {w0 w : World} {L : List Rg} {iG2 : Nat} (hG2 : L[iG2]? = some ⟨some 2, 0, 8, fun q => VU .u64 (H64 q), false⟩) {iG3 : Nat} (hG3 : L[iG3]? = some ⟨some 3, 0, 64, fun q => VU .u64 (K64 q), false⟩) {key1 : Nat → BitVec 8} {data2 : List Byte} {adata2 : Option Addr} {ndata2 cdata2 idata2 : Nat} (hdata2 : Bx L idata2 adata2 ndata2 cdata2 data2) {sealed3 : List Byte} {asealed3 : Option Addr} {nsealed3 csealed3 isealed3 : Nat} (hsealed3 : Bx L isealed3 asealed3 nsealed3 csealed3 sealed3) {r : ((List Byte) × Nat)} (hR : letheref05_Open key1 data2 sealed3 r) (HST : St B w0 (L) w) :
  Calls Tryd.prog 30 #[AG [(32, fun q => VU .u8 (key1 q))], .slice adata2 ndata2 cdata2, .slice asealed3 nsealed3 csealed3] w fun e w' => ∃ ay0 : Option Addr, ∃ py0 : Option Nat, ∃ ny0 : Nat, ∃ cy0 : Nat, ∃ Fy0 : Nat → Byte, e = .returned (.tuple #[.slice ay0 ny0 cy0, VN r.2]) ∧ St B w0 (⟨py0, 0, cy0, fun q => VU .u8 (Fy0 q), true⟩ :: L) w' ∧ Ow ay0 py0 ny0 cy0 Fy0 r.1 := by
 refine W.enter 49 Tryd.func30 rfl rfl rfl ?_
 unfold letheref05_Open at hR
 have edata2 := hdata2.hl; subst edata2
 have esealed3 := hsealed3.hl; subst esealed3
 refine W.seq_k fun _ k4 => W.regionT [(0, false), (1, true), (2, true)] (by kernel_rfl) ?_
 refine Plan.boxA HST rfl rfl PIn.nil fun b5 w5 hb5 h5 => ?_
 simp only [rngs, Nat.zero_add, Nat.reduceAdd, zca, zna] at h5
 refine Plan.assign_slice rfl rfl <| Plan.assign_int rfl rfl <| Plan.nil (k4 _ _ ?_); clear k4
 refine W.seq_k fun _ k6 => W.regionT [(0, true), (1, true), (2, true), (3, true)] (by kernel_rfl) ?_
 refine Plan.move_slice rfl rfl <| Plan.len FRef05.isl24 rfl rfl ?_
 obtain ⟨hc7, hR⟩ := hR
 refine Plan.subI (a := ((sealed3.length : Nat) : Int)) (b := 32) rfl rfl rfl (by omega) <| Plan.assign_int rfl rfl <| Plan.nil (k6 _ _ ?_); clear k6
 refine W.seq_k fun _ k8 => W.seq_k fun _ k9 => ?_
 refine W.regionT [(0, true), (1, true)] (by kernel_rfl) ?_
 refine Plan.move_int rfl rfl <| Plan.cmpP (a := ((((sealed3.length : Nat) : Int) - 32) : Int)) (b := (0 : Int)) (p := (((sealed3.length : Nat) : Int) - 32) < 0) rfl rfl rfl rfl icmp_lt <| Plan.nil (k9 _ _ ?_); clear k9
 by_cases hc10 : (((sealed3.length : Nat) : Int) - 32) < 0
 ·
  replace hR := ifT hR hc10
  refine W.condT (congrArg Value.bool (decide_eq_true hc10)) ?_
  refine W.seq_k fun _ k11 => W.regionT [(0, true), (1, true)] (by kernel_rfl) ?_
  refine Plan.assign_slice rfl rfl <| Plan.assign_int rfl rfl <| Plan.nil (k11 _ _ ?_); clear k11
  refine W.ret (thenR_ret (finR_ret ?_))
  have h12 := h5.nilR
  have h13 := St.pickT (C := [_, _]) h12 [0] (by decide)
  simp only [pick, zfc, zfn, zgz, zgs, zca, zna] at h13
  subst r
  refine RetOk.mk (.tmp_slice rfl (.tmp_int rfl .nil)) ?_
  exact ⟨none, none, 0, 0, (fun _ => 0#8), rfl, h13, Ow.nil⟩
 ·
  replace hR := ifF hR hc10
  refine W.condF (congrArg Value.bool (decide_eq_false hc10)) ?_
  refine W.skip ?_
  refine k8 _ _ ?_; clear k8
  refine W.seq_k fun _ k14 => W.seq_k fun _ k20 => ?_
  refine W.regionT [(0, true), (1, true), (2, true), (3, true), (4, true), (5, true), (6, true)] (by kernel_rfl) ?_
  refine Plan.move_int rfl rfl ?_
  by_cases hc21 : 512 < (((sealed3.length : Nat) : Int) - 32)
  ·
   replace hR := ifT hR hc21
   refine Plan.cmpV (a := ((((sealed3.length : Nat) : Int) - 32) : Int)) (b := (512 : Int)) (p := 512 < (((sealed3.length : Nat) : Int) - 32)) (v := true) rfl rfl rfl rfl icmp_gt (decide_eq_true hc21) <| Plan.move_bool rfl rfl <| Plan.passed rfl <| Plan.passed rfl <| Plan.passed rfl <| Plan.pickTb rfl rfl rfl <| Plan.nil (k20 _ _ ?_); clear k20
   refine W.condT rfl ?_
   refine W.seq_k fun _ k22 => W.regionT [(0, true), (1, true)] (by kernel_rfl) ?_
   refine Plan.assign_slice rfl rfl <| Plan.assign_int rfl rfl <| Plan.nil (k22 _ _ ?_); clear k22
   refine W.ret (thenR_ret (finR_ret ?_))
   have h23 := h5.nilR
   have h24 := St.pickT (C := [_, _]) h23 [0] (by decide)
   simp only [pick, zfc, zfn, zgz, zgs, zca, zna] at h24
   subst r
   refine RetOk.mk (.tmp_slice rfl (.tmp_int rfl .nil)) ?_
   exact ⟨none, none, 0, 0, (fun _ => 0#8), rfl, h24, Ow.nil⟩
  ·
   replace hR := ifF hR hc21
   refine Plan.cmpV (a := ((((sealed3.length : Nat) : Int) - 32) : Int)) (b := (512 : Int)) (p := 512 < (((sealed3.length : Nat) : Int) - 32)) (v := false) rfl rfl rfl rfl icmp_gt (decide_eq_false hc21) <| Plan.move_bool rfl rfl <| Plan.move_slice rfl rfl <| Plan.len FRef05.isl24 rfl rfl <| Plan.cmpP (a := (((data2.length : Nat) : Int) : Int)) (b := (65535 : Int)) (p := 65535 < data2.length) rfl rfl rfl rfl icmp_gtN <| Plan.pickFb rfl rfl rfl <| Plan.nil (k20 _ _ ?_); clear k20
   by_cases hc25 : 65535 < data2.length
   ·
    replace hR := ifT hR hc25
    refine W.condT (congrArg Value.bool (decide_eq_true hc25)) ?_
    refine W.seq_k fun _ k26 => W.regionT [(0, true), (1, true)] (by kernel_rfl) ?_
    refine Plan.assign_slice rfl rfl <| Plan.assign_int rfl rfl <| Plan.nil (k26 _ _ ?_); clear k26
    refine W.ret (thenR_ret (finR_ret ?_))
    have h27 := h5.nilR
    have h28 := St.pickT (C := [_, _]) h27 [0] (by decide)
    simp only [pick, zfc, zfn, zgz, zgs, zca, zna] at h28
    subst r
    refine RetOk.mk (.tmp_slice rfl (.tmp_int rfl .nil)) ?_
    exact ⟨none, none, 0, 0, (fun _ => 0#8), rfl, h28, Ow.nil⟩
   ·
    replace hR := ifF hR hc25
    refine W.condF (congrArg Value.bool (decide_eq_false hc25)) ?_
    refine W.skip ?_
    refine k14 _ _ ?_; clear k14
    refine W.seq_k fun _ k29 => W.regionT [(0, true), (1, false), (2, true), (3, true), (4, true), (5, true), (6, false), (7, true), (8, true), (9, false)] (by kernel_rfl) ?_
    refine Plan.loadA1 h5 0 rfl rfl rfl FRef05.agg22 ?_
    obtain ⟨x_31, x_32, x_33, hr30, hR⟩ := hR
    refine Plan.call (vs := [AG [(32, fun q => VU .u8 (key1 q))]]) rfl FRef05.call44 rfl (letheref05_Three_ok (iG2 := iG2 + 1) hG2 (iG3 := iG3 + 1) hG3 hr30 h5) ?_
    rintro _ w41 ⟨ry0_34, ay0_35, ny0_36, cy0_37, ay1_38, ny1_39, cy1_40, rfl, h41, hf41_0, hf41_1⟩
    try dsimp only at hf41_0 hf41_1
    obtain rfl := hf41_0.hl
    obtain rfl := hf41_1.hl
    refine ⟨_, rfl, .inr ⟨rfl, ?_⟩⟩
    refine Plan.move_tuple rfl rfl <| Plan.extract_slice rfl rfl rfl <| Plan.extract_slice rfl rfl rfl <| Plan.extract_agg rfl rfl rfl ?_
    refine Plan.alloc h41 rfl FRef05.z31 PIn.nil fun b42 w42 hb42 h42 => ?_
    simp only [rngs, Nat.zero_add, Nat.reduceAdd, zca, zna] at h42
    refine Plan.assign_slice rfl rfl <| Plan.assign_slice rfl rfl ?_
    refine Plan.storeA (f' := fun q => VU .u8 (x_33 q)) h42 0 rfl rfl rfl rfl (fun _ _ => rfl) FRef05.sz31 rfl fun w43 h43 => ?_
    simp only [zca, zna, zsz, zss] at h43
    refine Plan.nil (k29 _ _ ?_); clear k29
    refine W.seq_k fun _ k44 => W.seq_k fun _ k45 => ?_
    refine W.regionD FRef05.mixed [(0, true), (1, true), (2, true), (3, true), (4, true), (7, true), (8, true), (9, true), (10, true), (5, false), (6, true), (11, true)] (by kernel_rfl) ?_
    have h46 := h43.drew
    refine Plan.move_slice rfl rfl <| Plan.move_slice rfl rfl <| Plan.move_slice rfl rfl <| Plan.move_int rfl rfl ?_
    obtain ⟨hc47, hR⟩ := hR
    obtain ⟨hc48, hR⟩ := hR
    refine Plan.slV (lo := 0) (hi := (((sealed3.length : Nat) : Int) - 32).toNat) hsealed3 FRef05.sl24 rfl rfl rfl ⟨_, congrArg (Value.int .i64) (Int.toNat_of_nonneg hc47).symm⟩ hc48 fun a49 c49 hv49 => ?_
    refine Plan.move_slice rfl rfl <| Plan.move_int rfl rfl ?_
    obtain ⟨hc50, hR⟩ := hR
    obtain ⟨hc51, hR⟩ := hR
    refine Plan.slV (lo := (((sealed3.length : Nat) : Int) - 32).toNat) (hi := sealed3.length) hsealed3 FRef05.sl24 rfl rfl ⟨_, congrArg (Value.int .i64) (Int.toNat_of_nonneg hc50).symm⟩ rfl hc51 fun a52 c52 hv52 => ?_
    refine Plan.toStrV h46 (hv52.app [_, _, _]) FRef05.slu24 FRef05.u5 FRef05.str9 rfl rfl fun r53 hr53 => ?_
    replace hr53 := or_un [_, _, _] hr53
    obtain ⟨x_55, hr54, hR⟩ := hR
    refine Plan.call (vs := [.slice ay1_38 x_32.length cy1_40, .slice adata2 data2.length cdata2, .slice a49 ((seg sealed3 0 ((((sealed3.length : Nat) : Int) - 32).toNat)).length) c49]) rfl FRef05.call48 rfl (letheref05_Tag_ok (iG2 := iG2 + 3) hG2 (iG3 := iG3 + 3) hG3 (by exact (Bx.move (j := 1) hf41_1 rfl rfl)) (hdata2.app [_, _, _]) (hv49.app [_, _, _]) hr54 h46) ?_
    rintro _ w61 ⟨ay0_56, py0_57, ny0_58, cy0_59, Fy0_60, rfl, h61, hf61_0⟩
    obtain rfl := hf61_0.hl
    refine ⟨_, rfl, .inl ⟨PIn.keep (PIn.or (isealed3 + 4) (or_get hr53 [_, _, _, _]) PIn.nil) h61, ?_⟩⟩
    refine Plan.toStrV h61 (hf61_0.bx 0 rfl) FRef05.slu24 FRef05.u5 FRef05.str9 rfl rfl fun r62 hr62 => ?_
    refine Plan.neStrV (v := decide (x_55 = (seg sealed3 ((((sealed3.length : Nat) : Int) - 32).toNat) sealed3.length))) rfl rfl rfl rfl <| Plan.nil (k45 _ _ ?_); clear k45
    by_cases hc63 : x_55 = (seg sealed3 ((((sealed3.length : Nat) : Int) - 32).toNat) sealed3.length)
    ·
     replace hR := ifT hR hc63
     refine W.condF (congrArg Value.bool (congrArg Bool.not (decide_eq_true hc63))) ?_
     refine W.skip ?_
     refine k44 _ _ ?_; clear k44
     refine W.seq_k fun _ k64 => ?_
     refine W.regionD FRef05.mixed [(0, true), (2, true), (3, true), (4, true), (5, true), (1, false), (6, false), (7, true), (8, true)] (by kernel_rfl) ?_
     have h65 := h61.drew
     refine Plan.move_slice rfl rfl <| Plan.loadA1 h65 1 rfl rfl rfl FRef05.agg31 <| Plan.move_slice rfl rfl <| Plan.move_int rfl rfl ?_
     obtain ⟨hc66, hR⟩ := hR
     obtain ⟨hc67, hR⟩ := hR
     refine Plan.slV (lo := 0) (hi := (((sealed3.length : Nat) : Int) - 32).toNat) hsealed3 FRef05.sl24 rfl rfl rfl ⟨_, congrArg (Value.int .i64) (Int.toNat_of_nonneg hc66).symm⟩ hc67 fun a68 c68 hv68 => ?_
     rcases hR with ⟨hr69, hR⟩ | ⟨x_70, x_71, x_72, hr69, hR⟩
     ·
      refine Plan.call (vs := [.slice ay0_35 x_31.length cy0_37]) rfl FRef05.call45 rfl (letheref04_New_ok (by exact (Bx.move (j := 2) hf41_0 rfl rfl)) hr69 h65) ?_
      rintro _ w73 ⟨rfl, h73⟩
      refine ⟨_, rfl, .inl ⟨PIn.keep (PIn.cons 1 rfl PIn.nil) h73, ?_⟩⟩
      exact hR.elim
     ·
      refine Plan.call (vs := [.slice ay0_35 x_31.length cy0_37]) rfl FRef05.call45 rfl (letheref04_New_ok (by exact (Bx.move (j := 2) hf41_0 rfl rfl)) hr69 h65) ?_
      rintro _ w80 ⟨b0_74, aw0_0_75, pw0_0_76, nw0_0_77, cw0_0_78, Fw0_0_79, rfl, h80, hf80_0⟩
      try dsimp only at hf80_0
      obtain rfl := hf80_0.hl
      refine ⟨_, rfl, .inl ⟨PIn.keep (PIn.cons 5 rfl PIn.nil) h80, ?_⟩⟩
      have h81 := St.pickT (C := [_, _, _, _, _, _, _, _]) h80 [0, 2, 3, 1, 4, 5, 6, 7] (by decide)
      simp only [pick, zfc, zfn, zgz, zgs, zca, zna] at h81
      obtain ⟨x_83, hr82, hR⟩ := hR
      refine Plan.call (vs := [.pointer (some ⟨b0_74, 0, none⟩), AG [(16, fun q => VU .u8 (x_33 q))], .slice a68 ((seg sealed3 0 ((((sealed3.length : Nat) : Int) - 32).toNat)).length) c68]) rfl FRef05.call46 rfl (letheref04_Cipher_Hide_ok (by exact (LO.lvf D87_flat hf80_0 0 rfl)) (hv68.app [_, _, _, _, _]) hr82 h81) ?_
      rintro _ w89 ⟨ay0_84, py0_85, ny0_86, cy0_87, Fy0_88, rfl, h89, hf89_0⟩
      obtain rfl := hf89_0.hl
      refine ⟨_, rfl, .inr ⟨rfl, ?_⟩⟩
      refine Plan.assign_slice rfl rfl <| Plan.assign_int rfl rfl <| Plan.nil (k64 _ _ ?_); clear k64
      refine W.ret (finR_ret ?_)
      have h90 := St.pickT (C := [_, _, _, _, _, _, _, _, _]) h89 [0] (by decide)
      simp only [pick, zfc, zfn, zgz, zgs, zca, zna] at h90
      subst r
      refine RetOk.mk (.tmp_slice rfl (.tmp_int rfl .nil)) ?_
      exact ⟨ay0_84, py0_85, x_83.length, cy0_87, Fy0_88, rfl, h90, hf89_0⟩
    ·
     replace hR := ifF hR hc63
     refine W.condT (congrArg Value.bool (congrArg Bool.not (decide_eq_false hc63))) ?_
     refine W.seq_k fun _ k91 => W.regionT [(0, true), (1, true)] (by kernel_rfl) ?_
     refine Plan.assign_slice rfl rfl <| Plan.assign_int rfl rfl <| Plan.nil (k91 _ _ ?_); clear k91
     refine W.ret (thenR_ret (finR_ret ?_))
     have h92 := h61.nilR
     have h93 := St.pickT (C := [_, _, _, _, _]) h92 [0] (by decide)
     simp only [pick, zfc, zfn, zgz, zgs, zca, zna] at h93
     subst r
     refine RetOk.mk (.tmp_slice rfl (.tmp_int rfl .nil)) ?_
     exact ⟨none, none, 0, 0, (fun _ => 0#8), rfl, h93, Ow.nil⟩
theorem letheref05_Length_ok {B : Nat} {w0 w : World} {L : List Rg} {n_1 : Int} {r : Int} (hR : letheref05_Length n_1 r) (HST : St B w0 (L) w) :
  Calls Tryd.prog 31 #[.int .i64 n_1] w fun e w' => e = .returned (.int .i64 r) ∧ St B w0 (L) w' := by
 refine W.enter 11 Tryd.func31 rfl rfl rfl ?_
 unfold letheref05_Length at hR
 refine W.seq_k fun _ k2 => W.regionT [(0, true)] (by kernel_rfl) ?_
 refine Plan.assign_int rfl rfl <| Plan.nil (k2 _ _ ?_); clear k2
 refine W.seq_k fun _ k3 => W.seq_k fun _ k9 => ?_
 refine W.regionT [(0, true), (1, true), (2, true), (3, true), (4, true), (5, true)] (by kernel_rfl) ?_
 refine Plan.move_int rfl rfl ?_
 by_cases hc10 : n_1 < 0
 ·
  replace hR := ifT hR hc10
  refine Plan.cmpV (a := (n_1 : Int)) (b := (0 : Int)) (p := n_1 < 0) (v := true) rfl rfl rfl rfl icmp_lt (decide_eq_true hc10) <| Plan.move_bool rfl rfl <| Plan.passed rfl <| Plan.passed rfl <| Plan.pickTb rfl rfl rfl <| Plan.nil (k9 _ _ ?_); clear k9
  refine W.condT rfl ?_
  refine W.seq_k fun _ k11 => W.regionT [(0, true)] (by kernel_rfl) ?_
  refine Plan.assign_int rfl rfl <| Plan.nil (k11 _ _ ?_); clear k11
  refine W.ret (thenR_ret (finR_ret ?_))
  subst r
  refine RetOk.mk (.tmp_int rfl .nil) ?_
  exact ⟨rfl, HST⟩
 ·
  replace hR := ifF hR hc10
  refine Plan.cmpV (a := (n_1 : Int)) (b := (0 : Int)) (p := n_1 < 0) (v := false) rfl rfl rfl rfl icmp_lt (decide_eq_false hc10) <| Plan.move_bool rfl rfl <| Plan.move_int rfl rfl <| Plan.cmpP (a := (n_1 : Int)) (b := (512 : Int)) (p := 512 < n_1) rfl rfl rfl rfl icmp_gt <| Plan.pickFb rfl rfl rfl <| Plan.nil (k9 _ _ ?_); clear k9
  by_cases hc12 : 512 < n_1
  ·
   replace hR := ifT hR hc12
   refine W.condT (congrArg Value.bool (decide_eq_true hc12)) ?_
   refine W.seq_k fun _ k13 => W.regionT [(0, true)] (by kernel_rfl) ?_
   refine Plan.assign_int rfl rfl <| Plan.nil (k13 _ _ ?_); clear k13
   refine W.ret (thenR_ret (finR_ret ?_))
   subst r
   refine RetOk.mk (.tmp_int rfl .nil) ?_
   exact ⟨rfl, HST⟩
  ·
   replace hR := ifF hR hc12
   refine W.condF (congrArg Value.bool (decide_eq_false hc12)) ?_
   refine W.skip ?_
   refine k3 _ _ ?_; clear k3
   refine W.seq_k fun _ k14 => W.regionT [(0, true), (1, true), (2, true)] (by kernel_rfl) ?_
   refine Plan.move_int rfl rfl <| Plan.addI (a := n_1) (b := 32) rfl rfl rfl (by omega) <| Plan.assign_int rfl rfl <| Plan.nil (k14 _ _ ?_); clear k14
   refine W.ret (finR_ret ?_)
   subst r
   refine RetOk.mk (.tmp_int rfl .nil) ?_
   exact ⟨rfl, HST⟩
end Go.Proofs.YthjkmhdgenmnoaaDoor
