/-
 WALKS of the package's functions, printed by this session's own program (auto.py).
-/
import Derived.Test.YtbkgblhmlenocaaProg
import Derived.Test.YtbkgblhmlenocaaEd
import Derived.Test.YtbkgblhmlenocaaRNetHands
import Derived.Test.YtbkgblhmlenocaaEls
import Derived.Test.YtbkgblhmlenocaaPm
import Derived.Test.YtbkgblhmlenocaaWLaw23
namespace Go.Proofs.Ytbkgblhmlenocaa
set_option linter.unusedSimpArgs false
set_option linter.unusedVariables false
set_option linter.unusedSectionVars false
set_option maxRecDepth 8000
set_option maxHeartbeats 1000000
open Go Go.LW
theorem FNetHands.fld60_0 : fieldB Try.prog 60 0 0 = true := by kernel_rfl
theorem FNetHands.sc3 : scalarT Try.prog 3 = true := by kernel_rfl
theorem FNetHands.slu23 : Try.prog.underlying 23 = some (.slice 5) := by kernel_rfl
theorem FNetHands.sz5 : szT Try.prog 5 1 = true := by kernel_rfl
theorem FNetHands.el23 : elD Try.prog 23 = some (1, 1, some (VU .u8 0#8)) := by kernel_rfl
theorem FNetHands.sl23 : slB Try.prog 23 1 = true := by kernel_rfl
theorem FNetHands.call29 : callB Try.prog 29 = true := by kernel_rfl
theorem FNetHands.ptr51 : ptrB Try.prog 51 = true := by kernel_rfl
theorem FNetHands.zv5 : (Try.prog.info? 5).bind (·.zero) = some (VU .u8 0#8) := by kernel_rfl
theorem FNetHands.isl23 : ∃ el, Try.prog.underlying 23 = some (.slice el) := ⟨5, by kernel_rfl⟩
theorem FNetHands.call30 : callB Try.prog 30 = true := by kernel_rfl
theorem FNetHands.call31 : callB Try.prog 31 = true := by kernel_rfl
theorem FNetHands.u5 : Try.prog.underlying 5 = some (.int .u8) := by kernel_rfl
theorem FNetHands.str9 : Try.prog.underlying 9 = some .string := by kernel_rfl
theorem FNetHands.some3 : (Try.prog.underlying 3).isSome = true := by kernel_rfl
theorem FNetHands.call32 : callB Try.prog 32 = true := by kernel_rfl
theorem FNetHands.isl57 : ∃ el, Try.prog.underlying 57 = some (.slice el) := ⟨60, by kernel_rfl⟩
theorem FNetHands.sl57 : slB Try.prog 57 4 = true := by kernel_rfl
theorem FNetHands.fld60_3 : fieldB Try.prog 60 3 3 = true := by kernel_rfl
theorem FNetHands.sc23 : scalarT Try.prog 23 = true := by kernel_rfl
theorem FNetHands.sz3 : szT Try.prog 3 1 = true := by kernel_rfl
theorem FNetHands.zv23 : (Try.prog.info? 23).bind (·.zero) = some (.slice none 0 0) := by kernel_rfl
theorem FNetHands.slu61 : Try.prog.underlying 61 = some (.slice 23) := by kernel_rfl
theorem FNetHands.sz23 : szT Try.prog 23 1 = true := by kernel_rfl
theorem FNetHands.el61 : elD Try.prog 61 = some (1, 24, some (.slice none 0 0)) := by kernel_rfl
theorem FNetHands.agg60 : aggT Try.prog 60 4 = true := by kernel_rfl
theorem FNetHands.pl60 : placesB Try.prog 60 [(0, 1), (1, 1), (2, 1), (3, 1)] = true := by kernel_rfl
theorem FNetHands.z60 : zeroIs Try.prog 60 [(1, fun _ => .int .i64 0), (1, fun _ => .int .i64 0), (1, fun _ => .int .i64 0), (1, fun _ => .slice none 0 0)] := zeroIs_agg (by kernel_rfl)
theorem FNetHands.call69 : callB Try.prog 69 = true := by kernel_rfl
theorem FNetHands.call33 : callB Try.prog 33 = true := by kernel_rfl
theorem FNetHands.call34 : callB Try.prog 34 = true := by kernel_rfl
theorem FNetHands.sz60 : szT Try.prog 60 4 = true := by kernel_rfl
theorem FNetHands.sc5 : scalarT Try.prog 5 = true := by kernel_rfl
theorem FNetHands.mixed : Try.prog.follows .mixedOrders = true := by kernel_rfl
theorem FNetHands.sl61 : slB Try.prog 61 1 = true := by kernel_rfl
theorem lethelaw23_NetHands_ok {B : Nat} {w0 : Base} {w : World} {L : List Rg} {b1 : List Byte} {ab1 : Option Addr} {nb1 cb1 ib1 : Nat} (hb1 : Bx L ib1 ab1 nb1 cb1 b1) {mark2 : Int} {r : Bool} (hR : lethelaw23_NetHands b1 mark2 r) (HST : St B w0 (L) w) :
  Calls Try.prog 7 #[.slice ab1 nb1 cb1, .int .i64 mark2] w fun e w' => e = .returned (.bool r) ∧ St B w0 (L) w' := by
 refine W.enter 305 Try.func7 rfl rfl rfl ?_
 unfold lethelaw23_NetHands at hR
 have eb1 := hb1.hl; subst eb1
 refine W.seq_k fun _ k3 => W.regionT [(0, true)] (by kernel_rfl) ?_
 refine Plan.assign_bool rfl rfl <| Plan.nil (k3 _ _ ?_); clear k3
 refine W.seq_k fun _ k4 => W.regionT [(0, false), (1, true), (2, true), (3, true), (4, true), (5, true)] (by kernel_rfl) ?_
 refine Plan.call (vs := [VN 2, VN 9]) rfl FNetHands.call29 rfl (net_Hd_New HST) ?_
 rintro _ w5 ⟨b5, m5, rfl, h5⟩
 replace h5 : St B (w0.on [mapR kvI D60 [] m5 ([] : List (Int × Int × Int × Int × (Option Addr × Nat × Nat)))]) (⟨some b5, 0, 1, fun _ => .int .i64 2, true⟩ :: ⟨some b5, 1, 1, fun _ => .int .i64 9, true⟩ :: ⟨some b5, 2, 1, fun _ => .map (some m5), true⟩ :: ⟨some b5, 3, 1, fun _ => .int .i64 0, true⟩ :: L) w5 := h5
 refine ⟨_, rfl, .inl ⟨PIn.keep (by exact PIn.nil) h5, ?_⟩⟩
 refine Plan.move_tuple rfl rfl <| Plan.extract_ptr rfl rfl rfl <| Plan.extract_int rfl rfl rfl <| Plan.assign_ptr rfl rfl <| Plan.assign_int rfl rfl <| Plan.nil (k4 _ _ ?_); clear k4
 refine W.seq_k fun _ k6 => W.seq_k fun _ k8 => ?_
 refine W.regionT [(0, true), (1, true), (2, true), (3, true), (4, true), (5, true)] (by kernel_rfl) ?_
 refine Plan.move_int rfl rfl <| Plan.cmpP (a := (0 : Int)) (b := (0 : Int)) (p := (0 : Nat) ≠ 0) rfl rfl rfl rfl icmp_neN <| Plan.move_bool rfl rfl <| Plan.move_ptr rfl rfl <| Plan.eqNil (b := false) FNetHands.ptr51 rfl rfl rfl rfl <| Plan.pickFb rfl rfl rfl <| Plan.nil (k8 _ _ ?_); clear k8
 refine W.condF rfl ?_
 refine W.skip ?_
 refine k6 _ _ ?_; clear k6
 refine W.seq_k fun _ k9 => W.regionT [(0, false), (1, true), (2, true), (3, true), (4, true), (5, true), (6, false), (7, true)] (by kernel_rfl) ?_
 refine Plan.buildSlice h5 (ps := [(2, fun q => VU .u8 (lit ([1#8, 2#8] : List Byte) q))]) FNetHands.slu23 FNetHands.sz5 FNetHands.zv5 (by decide) (by decide) rfl rfl (by kernel_rfl) (EffO.keep PIn.nil) fun b10 w10 hb10 h10 => ?_
 simp only [rngs, List.cons_append, List.nil_append] at h10
 have ho10 : Ow (some ⟨b10, 0, none⟩) (some b10) ([1#8, 2#8] : List Byte).length 2 (lit ([1#8, 2#8] : List Byte)) ([1#8, 2#8] : List Byte) := ⟨.inr ⟨b10, rfl, rfl⟩, Nat.le_refl _, rfl, fun q _ => rfl⟩
 refine Plan.move_slice rfl rfl <| Plan.move_slice rfl rfl <| Plan.len FNetHands.isl23 rfl rfl <| Plan.minN (a := b1.length) (b := 40) rfl rfl rfl ?_
 obtain ⟨hc11, hR⟩ := hR
 refine Plan.slV (lo := 0) (hi := (min b1.length 40)) hb1 FNetHands.sl23 rfl rfl rfl ⟨_, rfl⟩ hc11 fun a12 c12 hv12 => ?_
 obtain ⟨hc14, hR⟩ := hR
 refine Plan.appendO (X := ([1#8, 2#8] : List Byte)) (Y := (seg b1 0 (min b1.length 40))) h10 0 ho10 FNetHands.el23 FNetHands.sl23 rfl rfl rfl rfl (hv12.app [_, _, _, _, _]) hc14 (fun _ => EffO.keep PIn.nil) fun a13 pb13 cap13 F13 w13 ho13 h13 => ?_
 simp only [zca, zna, zsz, zss] at h13
 refine Plan.assign_slice rfl rfl <| Plan.nil (k9 _ _ ?_); clear k9
 refine W.seq_k fun _ k15 => W.regionT [(0, false), (1, true), (2, false), (3, false), (4, false), (5, true)] (by kernel_rfl) ?_
 refine Plan.buildE h13 (fun q => VU .u8 ((fun _ => 0#8 : Nat → Byte) q)) FNetHands.slu23 FNetHands.sz5 rfl (EffO.keep PIn.nil) fun b16 w16 hb16 h16 => ?_
 refine Plan.move_slice rfl rfl ?_
 obtain ⟨hc18, hR⟩ := hR
 refine Plan.appendO (X := ([] : List Byte)) (Y := (([1#8, 2#8] : List Byte) ++ (seg b1 0 (min b1.length 40)))) h16 0 Ow.empty FNetHands.el23 FNetHands.sl23 rfl rfl rfl rfl (ho13.bx 1 rfl) hc18 (fun _ => EffO.keep PIn.nil) fun a17 pb17 cap17 F17 w17 ho17 h17 => ?_
 simp only [zca, zna, zsz, zss] at h17
 refine Plan.buildSlice h17 (ps := [(3, fun q => VU .u8 (lit ([7#8, 7#8, 7#8] : List Byte) q))]) FNetHands.slu23 FNetHands.sz5 FNetHands.zv5 (by decide) (by decide) rfl rfl (by kernel_rfl) (EffO.keep PIn.nil) fun b19 w19 hb19 h19 => ?_
 simp only [rngs, List.cons_append, List.nil_append] at h19
 have ho19 : Ow (some ⟨b19, 0, none⟩) (some b19) ([7#8, 7#8, 7#8] : List Byte).length 3 (lit ([7#8, 7#8, 7#8] : List Byte)) ([7#8, 7#8, 7#8] : List Byte) := ⟨.inr ⟨b19, rfl, rfl⟩, Nat.le_refl _, rfl, fun q _ => rfl⟩
 obtain ⟨hc21, hR⟩ := hR
 refine Plan.appendO (X := (([] : List Byte) ++ (([1#8, 2#8] : List Byte) ++ (seg b1 0 (min b1.length 40))))) (Y := ([7#8, 7#8, 7#8] : List Byte)) h19 1 ho17 FNetHands.el23 FNetHands.sl23 rfl rfl rfl rfl (ho19.bx 0 rfl) hc21 (fun _ => EffO.keep PIn.nil) fun a20 pb20 cap20 F20 w20 ho20 h20 => ?_
 simp only [zca, zna, zsz, zss] at h20
 refine Plan.assign_slice rfl rfl <| Plan.nil (k15 _ _ ?_); clear k15
 refine W.seq_k fun _ k22 => W.regionT [(0, true), (1, true), (2, true), (3, true), (4, true), (5, false), (6, true), (7, true), (8, true), (9, true), (10, true)] (by kernel_rfl) ?_
 refine Plan.move_ptr rfl rfl <| Plan.move_slice rfl rfl <| Plan.move_slice rfl rfl <| Plan.len FNetHands.isl23 rfl rfl ?_
 obtain ⟨hc23, hR⟩ := hR
 have hm24 : ((([] : List Byte) ++ (([1#8, 2#8] : List Byte) ++ (seg b1 0 (min b1.length 40)))) ++ ([7#8, 7#8, 7#8] : List Byte)).length ≤ cap20 := ho20.hc
 refine Plan.slSl (lo := 0) (hi := (([1#8, 2#8] : List Byte) ++ (seg b1 0 (min b1.length 40))).length) FNetHands.sl23 rfl rfl rfl ⟨_, rfl⟩ (by omega) ?_
 have h25 := St.pickT (C := [_, _, _, _, _, _, _]) h20 [3, 4, 5, 6, 0, 1, 2] (by decide)
 simp only [pick, zfc, zfn, zgz, zgs, zca, zna] at h25
 obtain ⟨hc26, hR⟩ := hR
 refine Plan.call (vs := [.pointer (some ⟨b5, 0, none⟩), VN 1, VN 2, .slice (if cap20 = 0 then (a20 : Option Addr) else (a20 : Option Addr).map (·.add (0 * 1))) ((([1#8, 2#8] : List Byte) ++ (seg b1 0 (min b1.length 40))).length - 0) (cap20 - 0)]) rfl FNetHands.call30 rfl (net_Net_Send_raw (w0 := w0) (b8 := (seg ((([] : List Byte) ++ (([1#8, 2#8] : List Byte) ++ (seg b1 0 (min b1.length 40)))) ++ ([7#8, 7#8, 7#8] : List Byte)) 0 ((([1#8, 2#8] : List Byte) ++ (seg b1 0 (min b1.length 40))).length))) (by exact ((ho20.bx 1 rfl).seg (lo := 0) (hi := (([1#8, 2#8] : List Byte) ++ (seg b1 0 (min b1.length 40))).length) hc23)) (by decide) (by decide) (by decide) (by decide) (by show ¬ (9 : Int) ≤ ((0 : Nat) : Int); decide) (by decide) hc26 h25) ?_
 rintro _ w27 ⟨a27, pb27, cap27, F27, rfl, h27, ho27⟩
 replace h27 : St B (w0.on [mapR kvI D60 [] m5 ([(0, (0, 1, 2, ((a27, (seg ((([] : List Byte) ++ (([1#8, 2#8] : List Byte) ++ (seg b1 0 (min b1.length 40)))) ++ ([7#8, 7#8, 7#8] : List Byte)) 0 ((([1#8, 2#8] : List Byte) ++ (seg b1 0 (min b1.length 40))).length)).length, cap27) : Option Addr × Nat × Nat)))] : List (Int × Int × Int × Int × (Option Addr × Nat × Nat)))]) (⟨pb27, 0, cap27, fun q => VU .u8 (F27 q), true⟩ :: ⟨some b5, 0, 1, fun _ => .int .i64 2, true⟩ :: ⟨some b5, 1, 1, fun _ => .int .i64 9, true⟩ :: ⟨some b5, 2, 1, fun _ => .map (some m5), true⟩ :: ⟨some b5, 3, 1, fun _ => .int .i64 1, true⟩ :: ⟨some b19, 0, 3, fun q => VU .u8 ((lit ([7#8, 7#8, 7#8] : List Byte)) q), true⟩ :: ⟨pb20, 0, cap20, fun q => VU .u8 (F20 q), true⟩ :: ⟨pb13, 0, cap13, fun q => VU .u8 (F13 q), true⟩ :: L) w27 := h27
 refine ⟨_, rfl, .inl ⟨PIn.keep (by exact PIn.nil) h27, ?_⟩⟩
 refine Plan.move_tuple rfl rfl <| Plan.extract_int rfl rfl rfl <| Plan.extract_int rfl rfl rfl <| Plan.assign_int rfl rfl <| Plan.assign_int rfl rfl <| Plan.nil (k22 _ _ ?_); clear k22
 refine W.seq_k fun _ k28 => W.regionT [(0, true), (1, true), (2, true), (3, true), (4, true), (5, false), (6, true), (7, true), (8, true), (9, true), (10, true)] (by kernel_rfl) ?_
 refine Plan.move_ptr rfl rfl <| Plan.move_slice rfl rfl <| Plan.move_slice rfl rfl <| Plan.len FNetHands.isl23 rfl rfl ?_
 obtain ⟨hc29, hR⟩ := hR
 have hm30 : ((([] : List Byte) ++ (([1#8, 2#8] : List Byte) ++ (seg b1 0 (min b1.length 40)))) ++ ([7#8, 7#8, 7#8] : List Byte)).length ≤ cap20 := ho20.hc
 refine Plan.slSl (lo := 0) (hi := (([1#8, 2#8] : List Byte) ++ (seg b1 0 (min b1.length 40))).length) FNetHands.sl23 rfl rfl rfl ⟨_, rfl⟩ (by omega) ?_
 have h31 := St.pickT (C := [_, _, _, _, _, _, _, _]) h27 [1, 2, 3, 4, 0, 5, 6, 7] (by decide)
 simp only [pick, zfc, zfn, zgz, zgs, zca, zna] at h31
 obtain ⟨hc32, hR⟩ := hR
 refine Plan.call (vs := [.pointer (some ⟨b5, 0, none⟩), VN 2, VN 1, .slice (if cap20 = 0 then (a20 : Option Addr) else (a20 : Option Addr).map (·.add (0 * 1))) ((([1#8, 2#8] : List Byte) ++ (seg b1 0 (min b1.length 40))).length - 0) (cap20 - 0)]) rfl FNetHands.call30 rfl (net_Net_Send_raw (w0 := w0) (b8 := (seg ((([] : List Byte) ++ (([1#8, 2#8] : List Byte) ++ (seg b1 0 (min b1.length 40)))) ++ ([7#8, 7#8, 7#8] : List Byte)) 0 ((([1#8, 2#8] : List Byte) ++ (seg b1 0 (min b1.length 40))).length))) (by exact ((ho20.bx 2 rfl).seg (lo := 0) (hi := (([1#8, 2#8] : List Byte) ++ (seg b1 0 (min b1.length 40))).length) hc29)) (by decide) (by decide) (by decide) (by decide) (by show ¬ (9 : Int) ≤ ((1 : Nat) : Int); decide) (by decide) hc32 h31) ?_
 rintro _ w33 ⟨a33, pb33, cap33, F33, rfl, h33, ho33⟩
 replace h33 : St B (w0.on [mapR kvI D60 [] m5 ([(0, (0, 1, 2, ((a27, (seg ((([] : List Byte) ++ (([1#8, 2#8] : List Byte) ++ (seg b1 0 (min b1.length 40)))) ++ ([7#8, 7#8, 7#8] : List Byte)) 0 ((([1#8, 2#8] : List Byte) ++ (seg b1 0 (min b1.length 40))).length)).length, cap27) : Option Addr × Nat × Nat))), (1, (1, 2, 1, ((a33, (seg ((([] : List Byte) ++ (([1#8, 2#8] : List Byte) ++ (seg b1 0 (min b1.length 40)))) ++ ([7#8, 7#8, 7#8] : List Byte)) 0 ((([1#8, 2#8] : List Byte) ++ (seg b1 0 (min b1.length 40))).length)).length, cap33) : Option Addr × Nat × Nat)))] : List (Int × Int × Int × Int × (Option Addr × Nat × Nat)))]) (⟨pb33, 0, cap33, fun q => VU .u8 (F33 q), true⟩ :: ⟨some b5, 0, 1, fun _ => .int .i64 2, true⟩ :: ⟨some b5, 1, 1, fun _ => .int .i64 9, true⟩ :: ⟨some b5, 2, 1, fun _ => .map (some m5), true⟩ :: ⟨some b5, 3, 1, fun _ => .int .i64 2, true⟩ :: ⟨pb27, 0, cap27, fun q => VU .u8 (F27 q), true⟩ :: ⟨some b19, 0, 3, fun q => VU .u8 ((lit ([7#8, 7#8, 7#8] : List Byte)) q), true⟩ :: ⟨pb20, 0, cap20, fun q => VU .u8 (F20 q), true⟩ :: ⟨pb13, 0, cap13, fun q => VU .u8 (F13 q), true⟩ :: L) w33 := h33
 refine ⟨_, rfl, .inl ⟨PIn.keep (by exact PIn.nil) h33, ?_⟩⟩
 refine Plan.move_tuple rfl rfl <| Plan.extract_int rfl rfl rfl <| Plan.extract_int rfl rfl rfl <| Plan.assign_int rfl rfl <| Plan.assign_int rfl rfl <| Plan.nil (k28 _ _ ?_); clear k28
 refine W.seq_k fun _ k34 => W.regionT [(0, true), (1, false), (2, true), (3, true), (4, true), (5, true), (6, true)] (by kernel_rfl) ?_
 refine Plan.move_ptr rfl rfl ?_
 have h35 := St.pickT (C := [_, _, _, _, _, _, _, _, _]) h33 [1, 2, 3, 4, 0, 5, 6, 7, 8] (by decide)
 simp only [pick, zfc, zfn, zgz, zgs, zca, zna] at h35
 obtain ⟨hc36, hR⟩ := hR
 refine Plan.call (vs := [.pointer (some ⟨b5, 0, none⟩), VN 0]) rfl FNetHands.call31 rfl (net_Net_Copy_raw (w0 := w0) (rb := (seg ((([] : List Byte) ++ (([1#8, 2#8] : List Byte) ++ (seg b1 0 (min b1.length 40)))) ++ ([7#8, 7#8, 7#8] : List Byte)) 0 ((([1#8, 2#8] : List Byte) ++ (seg b1 0 (min b1.length 40))).length))) (by exact (ho27.bx 1 rfl)) rfl (by show ¬ (9 : Int) ≤ ((2 : Nat) : Int); decide) (by decide) hc36 h35) ?_
 rintro _ w37 ⟨a37, pb37, cap37, F37, rfl, h37, ho37⟩
 replace h37 : St B (w0.on [mapR kvI D60 [] m5 ([(0, (0, 1, 2, ((a27, (seg ((([] : List Byte) ++ (([1#8, 2#8] : List Byte) ++ (seg b1 0 (min b1.length 40)))) ++ ([7#8, 7#8, 7#8] : List Byte)) 0 ((([1#8, 2#8] : List Byte) ++ (seg b1 0 (min b1.length 40))).length)).length, cap27) : Option Addr × Nat × Nat))), (1, (1, 2, 1, ((a33, (seg ((([] : List Byte) ++ (([1#8, 2#8] : List Byte) ++ (seg b1 0 (min b1.length 40)))) ++ ([7#8, 7#8, 7#8] : List Byte)) 0 ((([1#8, 2#8] : List Byte) ++ (seg b1 0 (min b1.length 40))).length)).length, cap33) : Option Addr × Nat × Nat))), (2, (2, 1, 2, ((a37, (seg ((([] : List Byte) ++ (([1#8, 2#8] : List Byte) ++ (seg b1 0 (min b1.length 40)))) ++ ([7#8, 7#8, 7#8] : List Byte)) 0 ((([1#8, 2#8] : List Byte) ++ (seg b1 0 (min b1.length 40))).length)).length, cap37) : Option Addr × Nat × Nat)))] : List (Int × Int × Int × Int × (Option Addr × Nat × Nat)))]) (⟨pb37, 0, cap37, fun q => VU .u8 (F37 q), true⟩ :: ⟨some b5, 0, 1, fun _ => .int .i64 2, true⟩ :: ⟨some b5, 1, 1, fun _ => .int .i64 9, true⟩ :: ⟨some b5, 2, 1, fun _ => .map (some m5), true⟩ :: ⟨some b5, 3, 1, fun _ => .int .i64 3, true⟩ :: ⟨pb33, 0, cap33, fun q => VU .u8 (F33 q), true⟩ :: ⟨pb27, 0, cap27, fun q => VU .u8 (F27 q), true⟩ :: ⟨some b19, 0, 3, fun q => VU .u8 ((lit ([7#8, 7#8, 7#8] : List Byte)) q), true⟩ :: ⟨pb20, 0, cap20, fun q => VU .u8 (F20 q), true⟩ :: ⟨pb13, 0, cap13, fun q => VU .u8 (F13 q), true⟩ :: L) w37 := h37
 refine ⟨_, rfl, .inl ⟨PIn.keep (by exact PIn.nil) h37, ?_⟩⟩
 refine Plan.move_tuple rfl rfl <| Plan.extract_int rfl rfl rfl <| Plan.extract_int rfl rfl rfl <| Plan.assign_int rfl rfl <| Plan.assign_int rfl rfl <| Plan.nil (k34 _ _ ?_); clear k34
 refine W.seq_k fun _ k38 => W.seq_k fun _ k45 => ?_
 refine W.regionT [(0, true), (1, true), (2, true), (3, true), (4, true), (5, true), (6, true), (7, true), (8, true), (9, true), (10, true), (11, true), (12, true), (13, true), (14, true), (15, true), (16, true), (17, true)] (by kernel_rfl) ?_
 refine Plan.move_int rfl rfl <| Plan.cmpP (a := (0 : Int)) (b := (0 : Int)) (p := (0 : Nat) ≠ 0) rfl rfl rfl rfl icmp_neN <| Plan.move_bool rfl rfl <| Plan.move_int rfl rfl <| Plan.cmpP (a := (0 : Int)) (b := (0 : Int)) (p := (0 : Nat) ≠ 0) rfl rfl rfl rfl icmp_neN <| Plan.pickFb rfl rfl rfl <| Plan.move_bool rfl rfl <| Plan.move_int rfl rfl ?_
 refine Plan.cmpP (a := (0 : Int)) (b := (0 : Int)) (p := (0 : Nat) ≠ 0) rfl rfl rfl rfl icmp_neN <| Plan.pickFb rfl rfl rfl <| Plan.move_bool rfl rfl <| Plan.move_slice rfl rfl ?_
 refine Plan.toStrV h37 (ho20.bx 8 rfl) FNetHands.slu23 FNetHands.u5 FNetHands.str9 rfl rfl fun r46 hr46 => ?_
 refine Plan.move_slice rfl rfl ?_
 refine Plan.toStrV h37 (ho13.bx 9 rfl) FNetHands.slu23 FNetHands.u5 FNetHands.str9 rfl rfl fun r47 hr47 => ?_
 obtain ⟨hc48, hR⟩ := hR
 refine Plan.addStr (X := (([1#8, 2#8] : List Byte) ++ (seg b1 0 (min b1.length 40)))) (Y := [7#8, 7#8, 7#8]) hc48 rfl rfl rfl <| Plan.neStrV (v := decide (((([] : List Byte) ++ (([1#8, 2#8] : List Byte) ++ (seg b1 0 (min b1.length 40)))) ++ ([7#8, 7#8, 7#8] : List Byte)) = ((([1#8, 2#8] : List Byte) ++ (seg b1 0 (min b1.length 40))) ++ [7#8, 7#8, 7#8]))) rfl rfl rfl rfl <| Plan.pickFb rfl rfl rfl <| Plan.nil (k45 _ _ ?_); clear k45
 by_cases hc49 : ((([] : List Byte) ++ (([1#8, 2#8] : List Byte) ++ (seg b1 0 (min b1.length 40)))) ++ ([7#8, 7#8, 7#8] : List Byte)) = ((([1#8, 2#8] : List Byte) ++ (seg b1 0 (min b1.length 40))) ++ [7#8, 7#8, 7#8])
 ·
  replace hR := ifT hR hc49
  refine W.condF (congrArg Value.bool (congrArg Bool.not (decide_eq_true hc49))) ?_
  refine W.skip ?_
  refine k38 _ _ ?_; clear k38
  refine W.seq_k fun _ k50 => W.seq_k fun _ k51 => ?_
  refine W.regionT [(0, true)] (by kernel_rfl) ?_
  refine Plan.assign_int rfl rfl <| Plan.nil (k51 _ _ ?_); clear k51
  obtain ⟨b73, hI74, hR074⟩ := hR
  refine W.cutN (fun e w => ∃ y_b73 : List Byte, b73 = y_b73 ∧ ∃ ab73 : Option Addr, ∃ pb73 : Option Nat, ∃ cb73 : Nat, ∃ Fb73 : Nat → Byte, EnvHas e [(0, .slice ab73 ((([1#8, 2#8] : List Byte) ++ (seg b1 0 (min b1.length 40))).length) cb73), (1, .int .i64 mark2), (5, .pointer (some ⟨b5, 0, none⟩))] ∧ St B (w0.on [mapR kvI D60 [] m5 ([(0, (0, 1, 2, ((a27, (seg ((([] : List Byte) ++ (([1#8, 2#8] : List Byte) ++ (seg b1 0 (min b1.length 40)))) ++ ([7#8, 7#8, 7#8] : List Byte)) 0 ((([1#8, 2#8] : List Byte) ++ (seg b1 0 (min b1.length 40))).length)).length, cap27) : Option Addr × Nat × Nat))), (1, (1, 2, 1, ((a33, (seg ((([] : List Byte) ++ (([1#8, 2#8] : List Byte) ++ (seg b1 0 (min b1.length 40)))) ++ ([7#8, 7#8, 7#8] : List Byte)) 0 ((([1#8, 2#8] : List Byte) ++ (seg b1 0 (min b1.length 40))).length)).length, cap33) : Option Addr × Nat × Nat))), (2, (2, 1, 2, ((a37, (seg ((([] : List Byte) ++ (([1#8, 2#8] : List Byte) ++ (seg b1 0 (min b1.length 40)))) ++ ([7#8, 7#8, 7#8] : List Byte)) 0 ((([1#8, 2#8] : List Byte) ++ (seg b1 0 (min b1.length 40))).length)).length, cap37) : Option Addr × Nat × Nat)))] : List (Int × Int × Int × Int × (Option Addr × Nat × Nat)))]) (⟨pb73, 0, cb73, fun q => VU .u8 (Fb73 q), true⟩ :: ⟨pb37, 0, cap37, fun q => VU .u8 (F37 q), true⟩ :: ⟨some b5, 0, 1, fun _ => .int .i64 2, true⟩ :: ⟨some b5, 1, 1, fun _ => .int .i64 9, true⟩ :: ⟨some b5, 2, 1, fun _ => .map (some m5), true⟩ :: ⟨some b5, 3, 1, fun _ => .int .i64 3, true⟩ :: ⟨pb33, 0, cap33, fun q => VU .u8 (F33 q), true⟩ :: ⟨pb27, 0, cap27, fun q => VU .u8 (F27 q), true⟩ :: L) w ∧ Ow ab73 pb73 ((([1#8, 2#8] : List Byte) ++ (seg b1 0 (min b1.length 40))).length) cb73 Fb73 y_b73) ?_ ?_
  ·
   refine W.block ?_
   have h75 := St.pickT (C := [_, _, _, _, _, _, _, _, _, _]) h37 [9, 8, 0, 1, 2, 3, 4, 5, 6] (by decide)
   simp only [pick, zfc, zfn, zgz, zgs, zca, zna] at h75
   refine W.iter hI74 (fun (s74 : ((List Byte) × (List Byte) × Nat)) e w => ∃ ab70 : Option Addr, ∃ pb70 : Option Nat, ∃ cb70 : Nat, ∃ Fb70 : Nat → Byte, ∃ along71 : Option Addr, ∃ plong71 : Option Nat, ∃ clong71 : Nat, ∃ Flong71 : Nat → Byte, EnvHas e [(0, .slice ab70 ((([1#8, 2#8] : List Byte) ++ (seg b1 0 (min b1.length 40))).length) cb70), (1, .int .i64 mark2), (5, .pointer (some ⟨b5, 0, none⟩)), (7, .slice along71 (((([] : List Byte) ++ (([1#8, 2#8] : List Byte) ++ (seg b1 0 (min b1.length 40)))) ++ ([7#8, 7#8, 7#8] : List Byte)).length) clong71), (14, VN s74.2.2)] ∧ St B (w0.on [mapR kvI D60 [] m5 ([(0, (0, 1, 2, ((a27, (seg ((([] : List Byte) ++ (([1#8, 2#8] : List Byte) ++ (seg b1 0 (min b1.length 40)))) ++ ([7#8, 7#8, 7#8] : List Byte)) 0 ((([1#8, 2#8] : List Byte) ++ (seg b1 0 (min b1.length 40))).length)).length, cap27) : Option Addr × Nat × Nat))), (1, (1, 2, 1, ((a33, (seg ((([] : List Byte) ++ (([1#8, 2#8] : List Byte) ++ (seg b1 0 (min b1.length 40)))) ++ ([7#8, 7#8, 7#8] : List Byte)) 0 ((([1#8, 2#8] : List Byte) ++ (seg b1 0 (min b1.length 40))).length)).length, cap33) : Option Addr × Nat × Nat))), (2, (2, 1, 2, ((a37, (seg ((([] : List Byte) ++ (([1#8, 2#8] : List Byte) ++ (seg b1 0 (min b1.length 40)))) ++ ([7#8, 7#8, 7#8] : List Byte)) 0 ((([1#8, 2#8] : List Byte) ++ (seg b1 0 (min b1.length 40))).length)).length, cap37) : Option Addr × Nat × Nat)))] : List (Int × Int × Int × Int × (Option Addr × Nat × Nat)))]) (⟨pb70, 0, cb70, fun q => VU .u8 (Fb70 q), true⟩ :: ⟨plong71, 0, clong71, fun q => VU .u8 (Flong71 q), true⟩ :: ⟨pb37, 0, cap37, fun q => VU .u8 (F37 q), true⟩ :: ⟨some b5, 0, 1, fun _ => .int .i64 2, true⟩ :: ⟨some b5, 1, 1, fun _ => .int .i64 9, true⟩ :: ⟨some b5, 2, 1, fun _ => .map (some m5), true⟩ :: ⟨some b5, 3, 1, fun _ => .int .i64 3, true⟩ :: ⟨pb33, 0, cap33, fun q => VU .u8 (F33 q), true⟩ :: ⟨pb27, 0, cap27, fun q => VU .u8 (F27 q), true⟩ :: L) w ∧ Ow ab70 pb70 ((([1#8, 2#8] : List Byte) ++ (seg b1 0 (min b1.length 40))).length) cb70 Fb70 s74.1 ∧ Ow along71 plong71 (((([] : List Byte) ++ (([1#8, 2#8] : List Byte) ++ (seg b1 0 (min b1.length 40)))) ++ ([7#8, 7#8, 7#8] : List Byte)).length) clong71 Flong71 s74.2.1) ⟨a13, pb13, cap13, F13, a20, pb20, cap20, F20, (zer (zer (zer (zer (zer zen))))), h75, ho13, ho20⟩ ?_
   rintro ⟨b70, long71, i_72⟩ o74 hR hx74 ev76 wl76 ⟨ab70, pb70, cb70, Fb70, along71, plong71, clong71, Flong71, he76, h76, hb70, hlong71⟩
   obtain ⟨ev76, rfl⟩ := he76.open
   unfold lethelaw23_NetHands_l0 at hR
   refine W.seq_k fun _ k77 => W.seq_k fun _ k78 => ?_
   refine W.regionT [(0, true), (1, true), (2, true), (3, true)] (by kernel_rfl) ?_
   refine Plan.move_int rfl rfl <| Plan.move_slice rfl rfl <| Plan.len FNetHands.isl23 rfl rfl <| Plan.cmpP (a := (((i_72 : Nat) : Int) : Int)) (b := ((((([1#8, 2#8] : List Byte) ++ (seg b1 0 (min b1.length 40))).length : Nat) : Int) : Int)) (p := i_72 < (([1#8, 2#8] : List Byte) ++ (seg b1 0 (min b1.length 40))).length) rfl rfl rfl rfl icmp_ltN <| Plan.nil (k78 _ _ ?_); clear k78
   by_cases hc79 : i_72 < (([1#8, 2#8] : List Byte) ++ (seg b1 0 (min b1.length 40))).length
   ·
    replace hR := ifT hR hc79
    refine W.condT (congrArg Value.bool (decide_eq_true hc79)) ?_
    refine W.skip ?_
    refine k77 _ _ ?_; clear k77
    refine W.seq_k fun _ k80 => ?_
    refine W.block ?_
    refine W.regionT [(0, true), (1, true), (2, true), (3, true), (4, true), (5, false)] (by kernel_rfl) ?_
    refine Plan.move_slice rfl rfl <| Plan.move_int rfl rfl <| Plan.move_int rfl rfl <| Plan.convIU .u8 (a := mark2) FNetHands.u5 FNetHands.some3 rfl rfl ?_
    obtain ⟨hc81, hR⟩ := hR
    refine Plan.idxVS (j := i_72) h76 (hlong71.bx 1 rfl) FNetHands.sl23 rfl rfl rfl hc81 ?_
    refine Plan.storeO (j := i_72) (Y := (BitVec.ofInt 8 mark2)) h76 1 hlong71 rfl rfl rfl rfl hc81 FNetHands.sz5 rfl fun w82 F82 ho82 h82 => ?_
    simp only [zca, zna, zsz, zss] at h82
    have e82 : (long71.set i_72 (BitVec.ofInt 8 mark2)).length = long71.length := List.length_set
    refine Plan.nil ?_
    refine blockR_norm ?_
    refine k80 _ _ ?_; clear k80
    refine W.regionT [(0, true), (1, true), (2, true)] (by kernel_rfl) ?_
    refine Plan.move_int rfl rfl ?_
    obtain ⟨hc83, hR⟩ := hR
    refine Plan.addN (a := i_72) (b := 1) rfl rfl rfl (by omega) <| Plan.assign_int rfl rfl <| Plan.nil ?_
    exact iterR_norm ⟨_, hR, ab70, pb70, cb70, Fb70, along71, plong71, clong71, F82, (zer (zer (zer (zer (zer zen))))), h82, hb70, (show Ow _ _ (((([] : List Byte) ++ (([1#8, 2#8] : List Byte) ++ (seg b1 0 (min b1.length 40)))) ++ ([7#8, 7#8, 7#8] : List Byte)).length) _ _ _ from ho82)⟩
   ·
    replace hR := ifF hR hc79
    refine W.condF (congrArg Value.bool (decide_eq_false hc79)) ?_
    refine W.exit (thenR_exit (iterR_exit (blockR_here ?_)))
    have h84 := St.pickT (C := [_, _, _, _, _, _, _, _, _]) h76 [0, 2, 3, 4, 5, 6, 7, 8] (by decide)
    simp only [pick, zfc, zfn, zgz, zgs, zca, zna] at h84
    exact ⟨b70, (hx74 _ hR).symm, ab70, pb70, cb70, Fb70, (zer (zer (zer zen))), h84, hb70⟩
  ·
   rintro ev85 wl85 ⟨y_b73, hy85, ab73, pb73, cb73, Fb73, he85, h85, hb73⟩
   obtain ⟨ev85, rfl⟩ := he85.open
   subst hy85
   replace hR := hR074
   refine k50 _ _ ?_; clear k50
   refine W.seq_k fun _ k86 => W.regionT [(0, true), (1, false), (2, true)] (by kernel_rfl) ?_
   refine Plan.move_ptr rfl rfl ?_
   have h87 := St.pickT (C := [_, _, _, _, _, _, _, _]) h85 [2, 3, 4, 5, 0, 1, 6, 7] (by decide)
   simp only [pick, zfc, zfn, zgz, zgs, zca, zna] at h87
   obtain ⟨hc88, hR⟩ := hR
   refine Plan.call (vs := [.pointer (some ⟨b5, 0, none⟩)]) rfl FNetHands.call32 rfl (net_Hd_Flights (w0 := w0) (b0 := (seg ((([] : List Byte) ++ (([1#8, 2#8] : List Byte) ++ (seg b1 0 (min b1.length 40)))) ++ ([7#8, 7#8, 7#8] : List Byte)) 0 ((([1#8, 2#8] : List Byte) ++ (seg b1 0 (min b1.length 40))).length))) (by exact (ho27.bx 3 rfl)) (b1 := (seg ((([] : List Byte) ++ (([1#8, 2#8] : List Byte) ++ (seg b1 0 (min b1.length 40)))) ++ ([7#8, 7#8, 7#8] : List Byte)) 0 ((([1#8, 2#8] : List Byte) ++ (seg b1 0 (min b1.length 40))).length))) (by exact (ho33.bx 2 rfl)) (b2 := (seg ((([] : List Byte) ++ (([1#8, 2#8] : List Byte) ++ (seg b1 0 (min b1.length 40)))) ++ ([7#8, 7#8, 7#8] : List Byte)) 0 ((([1#8, 2#8] : List Byte) ++ (seg b1 0 (min b1.length 40))).length))) (by exact (ho37.bx 1 rfl)) hc88 hc88 hc88 h87) ?_
   rintro _ w89 ⟨b89, cap89, a89_0, pb89_0, cap89_0, F89_0, a89_1, pb89_1, cap89_1, F89_1, a89_2, pb89_2, cap89_2, F89_2, rfl, h89, ho89_0, ho89_1, ho89_2⟩
   replace h89 : St B (w0.on [mapR kvI D60 [] m5 ([(0, (0, 1, 2, ((a27, (seg ((([] : List Byte) ++ (([1#8, 2#8] : List Byte) ++ (seg b1 0 (min b1.length 40)))) ++ ([7#8, 7#8, 7#8] : List Byte)) 0 ((([1#8, 2#8] : List Byte) ++ (seg b1 0 (min b1.length 40))).length)).length, cap27) : Option Addr × Nat × Nat))), (1, (1, 2, 1, ((a33, (seg ((([] : List Byte) ++ (([1#8, 2#8] : List Byte) ++ (seg b1 0 (min b1.length 40)))) ++ ([7#8, 7#8, 7#8] : List Byte)) 0 ((([1#8, 2#8] : List Byte) ++ (seg b1 0 (min b1.length 40))).length)).length, cap33) : Option Addr × Nat × Nat))), (2, (2, 1, 2, ((a37, (seg ((([] : List Byte) ++ (([1#8, 2#8] : List Byte) ++ (seg b1 0 (min b1.length 40)))) ++ ([7#8, 7#8, 7#8] : List Byte)) 0 ((([1#8, 2#8] : List Byte) ++ (seg b1 0 (min b1.length 40))).length)).length, cap37) : Option Addr × Nat × Nat)))] : List (Int × Int × Int × Int × (Option Addr × Nat × Nat)))]) (⟨some b89, 0, 1, fun _ => .int .i64 0, true⟩ :: ⟨some b89, 1, 1, fun _ => .int .i64 1, true⟩ :: ⟨some b89, 2, 1, fun _ => .int .i64 2, true⟩ :: ⟨some b89, 3, 1, fun _ => .slice a89_0 ((seg ((([] : List Byte) ++ (([1#8, 2#8] : List Byte) ++ (seg b1 0 (min b1.length 40)))) ++ ([7#8, 7#8, 7#8] : List Byte)) 0 ((([1#8, 2#8] : List Byte) ++ (seg b1 0 (min b1.length 40))).length)).length) cap89_0, true⟩ :: ⟨some b89, 4, 1, fun _ => .int .i64 1, true⟩ :: ⟨some b89, 5, 1, fun _ => .int .i64 2, true⟩ :: ⟨some b89, 6, 1, fun _ => .int .i64 1, true⟩ :: ⟨some b89, 7, 1, fun _ => .slice a89_1 ((seg ((([] : List Byte) ++ (([1#8, 2#8] : List Byte) ++ (seg b1 0 (min b1.length 40)))) ++ ([7#8, 7#8, 7#8] : List Byte)) 0 ((([1#8, 2#8] : List Byte) ++ (seg b1 0 (min b1.length 40))).length)).length) cap89_1, true⟩ :: ⟨some b89, 8, 1, fun _ => .int .i64 2, true⟩ :: ⟨some b89, 9, 1, fun _ => .int .i64 1, true⟩ :: ⟨some b89, 10, 1, fun _ => .int .i64 2, true⟩ :: ⟨some b89, 11, 1, fun _ => .slice a89_2 ((seg ((([] : List Byte) ++ (([1#8, 2#8] : List Byte) ++ (seg b1 0 (min b1.length 40)))) ++ ([7#8, 7#8, 7#8] : List Byte)) 0 ((([1#8, 2#8] : List Byte) ++ (seg b1 0 (min b1.length 40))).length)).length) cap89_2, true⟩ :: ⟨pb89_0, 0, cap89_0, fun q => VU .u8 (F89_0 q), true⟩ :: ⟨pb89_1, 0, cap89_1, fun q => VU .u8 (F89_1 q), true⟩ :: ⟨pb89_2, 0, cap89_2, fun q => VU .u8 (F89_2 q), true⟩ :: ⟨some b5, 0, 1, fun _ => .int .i64 2, true⟩ :: ⟨some b5, 1, 1, fun _ => .int .i64 9, true⟩ :: ⟨some b5, 2, 1, fun _ => .map (some m5), true⟩ :: ⟨some b5, 3, 1, fun _ => .int .i64 3, true⟩ :: ⟨pb73, 0, cb73, fun q => VU .u8 (Fb73 q), true⟩ :: ⟨pb37, 0, cap37, fun q => VU .u8 (F37 q), true⟩ :: ⟨pb33, 0, cap33, fun q => VU .u8 (F33 q), true⟩ :: ⟨pb27, 0, cap27, fun q => VU .u8 (F27 q), true⟩ :: L) w89 := h89
   refine ⟨_, rfl, .inl ⟨PIn.keep (by exact PIn.nil) h89, ?_⟩⟩
   refine Plan.assign_slice rfl rfl <| Plan.nil (k86 _ _ ?_); clear k86
   refine W.seq_k fun _ k90 => W.regionT [(0, true), (1, false), (2, true)] (by kernel_rfl) ?_
   refine Plan.move_ptr rfl rfl ?_
   have h91 := St.pickT (C := [_, _, _, _, _, _, _, _, _, _, _, _, _, _, _, _, _, _, _, _, _, _, _]) h89 [15, 16, 17, 18, 0, 1, 2, 3, 4, 5, 6, 7, 8, 9, 10, 11, 12, 13, 14, 19, 20, 21, 22] (by decide)
   simp only [pick, zfc, zfn, zgz, zgs, zca, zna] at h91
   obtain ⟨hc92, hR⟩ := hR
   refine Plan.call (vs := [.pointer (some ⟨b5, 0, none⟩)]) rfl FNetHands.call32 rfl (net_Hd_Flights (w0 := w0) (b0 := (seg ((([] : List Byte) ++ (([1#8, 2#8] : List Byte) ++ (seg b1 0 (min b1.length 40)))) ++ ([7#8, 7#8, 7#8] : List Byte)) 0 ((([1#8, 2#8] : List Byte) ++ (seg b1 0 (min b1.length 40))).length))) (by exact (ho27.bx 18 rfl)) (b1 := (seg ((([] : List Byte) ++ (([1#8, 2#8] : List Byte) ++ (seg b1 0 (min b1.length 40)))) ++ ([7#8, 7#8, 7#8] : List Byte)) 0 ((([1#8, 2#8] : List Byte) ++ (seg b1 0 (min b1.length 40))).length))) (by exact (ho33.bx 17 rfl)) (b2 := (seg ((([] : List Byte) ++ (([1#8, 2#8] : List Byte) ++ (seg b1 0 (min b1.length 40)))) ++ ([7#8, 7#8, 7#8] : List Byte)) 0 ((([1#8, 2#8] : List Byte) ++ (seg b1 0 (min b1.length 40))).length))) (by exact (ho37.bx 16 rfl)) hc92 hc92 hc92 h91) ?_
   rintro _ w93 ⟨b93, cap93, a93_0, pb93_0, cap93_0, F93_0, a93_1, pb93_1, cap93_1, F93_1, a93_2, pb93_2, cap93_2, F93_2, rfl, h93, ho93_0, ho93_1, ho93_2⟩
   replace h93 : St B (w0.on [mapR kvI D60 [] m5 ([(0, (0, 1, 2, ((a27, (seg ((([] : List Byte) ++ (([1#8, 2#8] : List Byte) ++ (seg b1 0 (min b1.length 40)))) ++ ([7#8, 7#8, 7#8] : List Byte)) 0 ((([1#8, 2#8] : List Byte) ++ (seg b1 0 (min b1.length 40))).length)).length, cap27) : Option Addr × Nat × Nat))), (1, (1, 2, 1, ((a33, (seg ((([] : List Byte) ++ (([1#8, 2#8] : List Byte) ++ (seg b1 0 (min b1.length 40)))) ++ ([7#8, 7#8, 7#8] : List Byte)) 0 ((([1#8, 2#8] : List Byte) ++ (seg b1 0 (min b1.length 40))).length)).length, cap33) : Option Addr × Nat × Nat))), (2, (2, 1, 2, ((a37, (seg ((([] : List Byte) ++ (([1#8, 2#8] : List Byte) ++ (seg b1 0 (min b1.length 40)))) ++ ([7#8, 7#8, 7#8] : List Byte)) 0 ((([1#8, 2#8] : List Byte) ++ (seg b1 0 (min b1.length 40))).length)).length, cap37) : Option Addr × Nat × Nat)))] : List (Int × Int × Int × Int × (Option Addr × Nat × Nat)))]) (⟨some b93, 0, 1, fun _ => .int .i64 0, true⟩ :: ⟨some b93, 1, 1, fun _ => .int .i64 1, true⟩ :: ⟨some b93, 2, 1, fun _ => .int .i64 2, true⟩ :: ⟨some b93, 3, 1, fun _ => .slice a93_0 ((seg ((([] : List Byte) ++ (([1#8, 2#8] : List Byte) ++ (seg b1 0 (min b1.length 40)))) ++ ([7#8, 7#8, 7#8] : List Byte)) 0 ((([1#8, 2#8] : List Byte) ++ (seg b1 0 (min b1.length 40))).length)).length) cap93_0, true⟩ :: ⟨some b93, 4, 1, fun _ => .int .i64 1, true⟩ :: ⟨some b93, 5, 1, fun _ => .int .i64 2, true⟩ :: ⟨some b93, 6, 1, fun _ => .int .i64 1, true⟩ :: ⟨some b93, 7, 1, fun _ => .slice a93_1 ((seg ((([] : List Byte) ++ (([1#8, 2#8] : List Byte) ++ (seg b1 0 (min b1.length 40)))) ++ ([7#8, 7#8, 7#8] : List Byte)) 0 ((([1#8, 2#8] : List Byte) ++ (seg b1 0 (min b1.length 40))).length)).length) cap93_1, true⟩ :: ⟨some b93, 8, 1, fun _ => .int .i64 2, true⟩ :: ⟨some b93, 9, 1, fun _ => .int .i64 1, true⟩ :: ⟨some b93, 10, 1, fun _ => .int .i64 2, true⟩ :: ⟨some b93, 11, 1, fun _ => .slice a93_2 ((seg ((([] : List Byte) ++ (([1#8, 2#8] : List Byte) ++ (seg b1 0 (min b1.length 40)))) ++ ([7#8, 7#8, 7#8] : List Byte)) 0 ((([1#8, 2#8] : List Byte) ++ (seg b1 0 (min b1.length 40))).length)).length) cap93_2, true⟩ :: ⟨pb93_0, 0, cap93_0, fun q => VU .u8 (F93_0 q), true⟩ :: ⟨pb93_1, 0, cap93_1, fun q => VU .u8 (F93_1 q), true⟩ :: ⟨pb93_2, 0, cap93_2, fun q => VU .u8 (F93_2 q), true⟩ :: ⟨some b5, 0, 1, fun _ => .int .i64 2, true⟩ :: ⟨some b5, 1, 1, fun _ => .int .i64 9, true⟩ :: ⟨some b5, 2, 1, fun _ => .map (some m5), true⟩ :: ⟨some b5, 3, 1, fun _ => .int .i64 3, true⟩ :: ⟨some b89, 0, 1, fun _ => .int .i64 0, true⟩ :: ⟨some b89, 1, 1, fun _ => .int .i64 1, true⟩ :: ⟨some b89, 2, 1, fun _ => .int .i64 2, true⟩ :: ⟨some b89, 3, 1, fun _ => .slice a89_0 ((seg ((([] : List Byte) ++ (([1#8, 2#8] : List Byte) ++ (seg b1 0 (min b1.length 40)))) ++ ([7#8, 7#8, 7#8] : List Byte)) 0 ((([1#8, 2#8] : List Byte) ++ (seg b1 0 (min b1.length 40))).length)).length) cap89_0, true⟩ :: ⟨some b89, 4, 1, fun _ => .int .i64 1, true⟩ :: ⟨some b89, 5, 1, fun _ => .int .i64 2, true⟩ :: ⟨some b89, 6, 1, fun _ => .int .i64 1, true⟩ :: ⟨some b89, 7, 1, fun _ => .slice a89_1 ((seg ((([] : List Byte) ++ (([1#8, 2#8] : List Byte) ++ (seg b1 0 (min b1.length 40)))) ++ ([7#8, 7#8, 7#8] : List Byte)) 0 ((([1#8, 2#8] : List Byte) ++ (seg b1 0 (min b1.length 40))).length)).length) cap89_1, true⟩ :: ⟨some b89, 8, 1, fun _ => .int .i64 2, true⟩ :: ⟨some b89, 9, 1, fun _ => .int .i64 1, true⟩ :: ⟨some b89, 10, 1, fun _ => .int .i64 2, true⟩ :: ⟨some b89, 11, 1, fun _ => .slice a89_2 ((seg ((([] : List Byte) ++ (([1#8, 2#8] : List Byte) ++ (seg b1 0 (min b1.length 40)))) ++ ([7#8, 7#8, 7#8] : List Byte)) 0 ((([1#8, 2#8] : List Byte) ++ (seg b1 0 (min b1.length 40))).length)).length) cap89_2, true⟩ :: ⟨pb89_0, 0, cap89_0, fun q => VU .u8 (F89_0 q), true⟩ :: ⟨pb89_1, 0, cap89_1, fun q => VU .u8 (F89_1 q), true⟩ :: ⟨pb89_2, 0, cap89_2, fun q => VU .u8 (F89_2 q), true⟩ :: ⟨pb73, 0, cb73, fun q => VU .u8 (Fb73 q), true⟩ :: ⟨pb37, 0, cap37, fun q => VU .u8 (F37 q), true⟩ :: ⟨pb33, 0, cap33, fun q => VU .u8 (F33 q), true⟩ :: ⟨pb27, 0, cap27, fun q => VU .u8 (F27 q), true⟩ :: L) w93 := h93
   refine ⟨_, rfl, .inl ⟨PIn.keep (by exact PIn.nil) h93, ?_⟩⟩
   refine Plan.assign_slice rfl rfl <| Plan.nil (k90 _ _ ?_); clear k90
   refine W.seq_k fun _ k94 => W.seq_k fun _ k96 => ?_
   refine W.regionT [(0, true), (1, true), (2, true), (3, true), (4, true), (5, true), (6, true), (7, true)] (by kernel_rfl) ?_
   refine Plan.move_slice rfl rfl <| Plan.len FNetHands.isl57 rfl rfl <| Plan.cmpP (a := (3 : Int)) (b := (3 : Int)) (p := (3 : Nat) ≠ 3) rfl rfl rfl rfl icmp_neN <| Plan.move_bool rfl rfl <| Plan.move_slice rfl rfl <| Plan.len FNetHands.isl57 rfl rfl <| Plan.cmpP (a := (3 : Int)) (b := (3 : Int)) (p := (3 : Nat) ≠ 3) rfl rfl rfl rfl icmp_neN <| Plan.pickFb rfl rfl rfl ?_
   refine Plan.nil (k96 _ _ ?_); clear k96
   refine W.condF rfl ?_
   refine W.skip ?_
   refine k94 _ _ ?_; clear k94
   refine W.seq_k fun _ k97 => W.seq_k fun _ k98 => ?_
   refine W.regionT [(0, true)] (by kernel_rfl) ?_
   refine Plan.assign_int rfl rfl <| Plan.nil (k98 _ _ ?_); clear k98
   refine W.block ?_
   refine W.unroll 9 (UL.next ?_)
   refine W.seq_k fun _ k99 => W.seq_k fun _ k100 => ?_
   refine W.regionT [(0, true), (1, true)] (by kernel_rfl) ?_
   refine Plan.move_int rfl rfl <| Plan.cmpP (a := (0 : Int)) (b := (3 : Int)) (p := (0 : Nat) < 3) rfl rfl rfl rfl icmp_ltN <| Plan.nil (k100 _ _ ?_); clear k100
   refine W.condT rfl ?_
   refine W.skip ?_
   refine k99 _ _ ?_; clear k99
   refine W.seq_k fun _ k101 => ?_
   refine W.block ?_
   refine W.seq_k fun _ k102 => W.seq_k fun _ k103 => ?_
   refine W.regionT [(0, true)] (by kernel_rfl) ?_
   refine Plan.assign_int rfl rfl <| Plan.nil (k103 _ _ ?_); clear k103
   obtain ⟨b124, m125, hI126, hR0126⟩ := hR
   refine W.cutN (fun e w => ∃ y_b124 : List Byte, ∃ y_m125 : List Byte, (b124, m125) = (y_b124, y_m125) ∧ ∃ ab124 : Option Addr, ∃ pb124 : Option Nat, ∃ cb124 : Nat, ∃ Fb124 : Nat → Byte, ∃ am125 : Option Addr, ∃ pm125 : Option Nat, ∃ cm125 : Nat, ∃ Fm125 : Nat → Byte, EnvHas e [(0, .slice ab124 ((([1#8, 2#8] : List Byte) ++ (seg b1 0 (min b1.length 40))).length) cb124), (1, .int .i64 mark2), (5, .pointer (some ⟨b5, 0, none⟩)), (15, .slice (some ⟨b89, 0, none⟩) 3 cap89), (16, .slice (some ⟨b93, 0, none⟩) 3 cap93), (17, VN 0)] ∧ St B (w0.on [mapR kvI D60 [] m5 ([(0, (0, 1, 2, ((a27, (seg ((([] : List Byte) ++ (([1#8, 2#8] : List Byte) ++ (seg b1 0 (min b1.length 40)))) ++ ([7#8, 7#8, 7#8] : List Byte)) 0 ((([1#8, 2#8] : List Byte) ++ (seg b1 0 (min b1.length 40))).length)).length, cap27) : Option Addr × Nat × Nat))), (1, (1, 2, 1, ((a33, (seg ((([] : List Byte) ++ (([1#8, 2#8] : List Byte) ++ (seg b1 0 (min b1.length 40)))) ++ ([7#8, 7#8, 7#8] : List Byte)) 0 ((([1#8, 2#8] : List Byte) ++ (seg b1 0 (min b1.length 40))).length)).length, cap33) : Option Addr × Nat × Nat))), (2, (2, 1, 2, ((a37, (seg ((([] : List Byte) ++ (([1#8, 2#8] : List Byte) ++ (seg b1 0 (min b1.length 40)))) ++ ([7#8, 7#8, 7#8] : List Byte)) 0 ((([1#8, 2#8] : List Byte) ++ (seg b1 0 (min b1.length 40))).length)).length, cap37) : Option Addr × Nat × Nat)))] : List (Int × Int × Int × Int × (Option Addr × Nat × Nat)))]) (⟨pb124, 0, cb124, fun q => VU .u8 (Fb124 q), true⟩ :: ⟨pm125, 0, cm125, fun q => VU .u8 (Fm125 q), true⟩ :: ⟨some b93, 0, 1, fun _ => .int .i64 0, true⟩ :: ⟨some b93, 1, 1, fun _ => .int .i64 1, true⟩ :: ⟨some b93, 2, 1, fun _ => .int .i64 2, true⟩ :: ⟨some b93, 3, 1, fun _ => .slice am125 ((seg ((([] : List Byte) ++ (([1#8, 2#8] : List Byte) ++ (seg b1 0 (min b1.length 40)))) ++ ([7#8, 7#8, 7#8] : List Byte)) 0 ((([1#8, 2#8] : List Byte) ++ (seg b1 0 (min b1.length 40))).length)).length) cm125, true⟩ :: ⟨some b93, 4, 1, fun _ => .int .i64 1, true⟩ :: ⟨some b93, 5, 1, fun _ => .int .i64 2, true⟩ :: ⟨some b93, 6, 1, fun _ => .int .i64 1, true⟩ :: ⟨some b93, 7, 1, fun _ => .slice a93_1 ((seg ((([] : List Byte) ++ (([1#8, 2#8] : List Byte) ++ (seg b1 0 (min b1.length 40)))) ++ ([7#8, 7#8, 7#8] : List Byte)) 0 ((([1#8, 2#8] : List Byte) ++ (seg b1 0 (min b1.length 40))).length)).length) cap93_1, true⟩ :: ⟨some b93, 8, 1, fun _ => .int .i64 2, true⟩ :: ⟨some b93, 9, 1, fun _ => .int .i64 1, true⟩ :: ⟨some b93, 10, 1, fun _ => .int .i64 2, true⟩ :: ⟨some b93, 11, 1, fun _ => .slice a93_2 ((seg ((([] : List Byte) ++ (([1#8, 2#8] : List Byte) ++ (seg b1 0 (min b1.length 40)))) ++ ([7#8, 7#8, 7#8] : List Byte)) 0 ((([1#8, 2#8] : List Byte) ++ (seg b1 0 (min b1.length 40))).length)).length) cap93_2, true⟩ :: ⟨pb93_1, 0, cap93_1, fun q => VU .u8 (F93_1 q), true⟩ :: ⟨pb93_2, 0, cap93_2, fun q => VU .u8 (F93_2 q), true⟩ :: ⟨some b5, 0, 1, fun _ => .int .i64 2, true⟩ :: ⟨some b5, 1, 1, fun _ => .int .i64 9, true⟩ :: ⟨some b5, 2, 1, fun _ => .map (some m5), true⟩ :: ⟨some b5, 3, 1, fun _ => .int .i64 3, true⟩ :: ⟨some b89, 0, 1, fun _ => .int .i64 0, true⟩ :: ⟨some b89, 1, 1, fun _ => .int .i64 1, true⟩ :: ⟨some b89, 2, 1, fun _ => .int .i64 2, true⟩ :: ⟨some b89, 3, 1, fun _ => .slice a89_0 ((seg ((([] : List Byte) ++ (([1#8, 2#8] : List Byte) ++ (seg b1 0 (min b1.length 40)))) ++ ([7#8, 7#8, 7#8] : List Byte)) 0 ((([1#8, 2#8] : List Byte) ++ (seg b1 0 (min b1.length 40))).length)).length) cap89_0, true⟩ :: ⟨some b89, 4, 1, fun _ => .int .i64 1, true⟩ :: ⟨some b89, 5, 1, fun _ => .int .i64 2, true⟩ :: ⟨some b89, 6, 1, fun _ => .int .i64 1, true⟩ :: ⟨some b89, 7, 1, fun _ => .slice a89_1 ((seg ((([] : List Byte) ++ (([1#8, 2#8] : List Byte) ++ (seg b1 0 (min b1.length 40)))) ++ ([7#8, 7#8, 7#8] : List Byte)) 0 ((([1#8, 2#8] : List Byte) ++ (seg b1 0 (min b1.length 40))).length)).length) cap89_1, true⟩ :: ⟨some b89, 8, 1, fun _ => .int .i64 2, true⟩ :: ⟨some b89, 9, 1, fun _ => .int .i64 1, true⟩ :: ⟨some b89, 10, 1, fun _ => .int .i64 2, true⟩ :: ⟨some b89, 11, 1, fun _ => .slice a89_2 ((seg ((([] : List Byte) ++ (([1#8, 2#8] : List Byte) ++ (seg b1 0 (min b1.length 40)))) ++ ([7#8, 7#8, 7#8] : List Byte)) 0 ((([1#8, 2#8] : List Byte) ++ (seg b1 0 (min b1.length 40))).length)).length) cap89_2, true⟩ :: ⟨pb89_0, 0, cap89_0, fun q => VU .u8 (F89_0 q), true⟩ :: ⟨pb89_1, 0, cap89_1, fun q => VU .u8 (F89_1 q), true⟩ :: ⟨pb89_2, 0, cap89_2, fun q => VU .u8 (F89_2 q), true⟩ :: ⟨pb37, 0, cap37, fun q => VU .u8 (F37 q), true⟩ :: ⟨pb33, 0, cap33, fun q => VU .u8 (F33 q), true⟩ :: ⟨pb27, 0, cap27, fun q => VU .u8 (F27 q), true⟩ :: L) w ∧ Ow ab124 pb124 ((([1#8, 2#8] : List Byte) ++ (seg b1 0 (min b1.length 40))).length) cb124 Fb124 y_b124 ∧ Ow am125 pm125 ((seg ((([] : List Byte) ++ (([1#8, 2#8] : List Byte) ++ (seg b1 0 (min b1.length 40)))) ++ ([7#8, 7#8, 7#8] : List Byte)) 0 ((([1#8, 2#8] : List Byte) ++ (seg b1 0 (min b1.length 40))).length)).length) cm125 Fm125 y_m125) ?_ ?_
   ·
    refine W.block ?_
    have h127 := St.pickT (C := [_, _, _, _, _, _, _, _, _, _, _, _, _, _, _, _, _, _, _, _, _, _, _, _, _, _, _, _, _, _, _, _, _, _, _, _, _, _]) h93 [34, 12, 0, 1, 2, 3, 4, 5, 6, 7, 8, 9, 10, 11, 13, 14, 15, 16, 17, 18, 19, 20, 21, 22, 23, 24, 25, 26, 27, 28, 29, 30, 31, 32, 33, 35, 36, 37] (by decide)
    simp only [pick, zfc, zfn, zgz, zgs, zca, zna] at h127
    refine W.iter hI126 (fun (s126 : ((List Byte) × Nat × (List Byte))) e w => ∃ ab121 : Option Addr, ∃ pb121 : Option Nat, ∃ cb121 : Nat, ∃ Fb121 : Nat → Byte, ∃ am123 : Option Addr, ∃ pm123 : Option Nat, ∃ cm123 : Nat, ∃ Fm123 : Nat → Byte, EnvHas e [(0, .slice ab121 ((([1#8, 2#8] : List Byte) ++ (seg b1 0 (min b1.length 40))).length) cb121), (1, .int .i64 mark2), (5, .pointer (some ⟨b5, 0, none⟩)), (15, .slice (some ⟨b89, 0, none⟩) 3 cap89), (16, .slice (some ⟨b93, 0, none⟩) 3 cap93), (17, VN 0), (18, VN s126.2.1)] ∧ St B (w0.on [mapR kvI D60 [] m5 ([(0, (0, 1, 2, ((a27, (seg ((([] : List Byte) ++ (([1#8, 2#8] : List Byte) ++ (seg b1 0 (min b1.length 40)))) ++ ([7#8, 7#8, 7#8] : List Byte)) 0 ((([1#8, 2#8] : List Byte) ++ (seg b1 0 (min b1.length 40))).length)).length, cap27) : Option Addr × Nat × Nat))), (1, (1, 2, 1, ((a33, (seg ((([] : List Byte) ++ (([1#8, 2#8] : List Byte) ++ (seg b1 0 (min b1.length 40)))) ++ ([7#8, 7#8, 7#8] : List Byte)) 0 ((([1#8, 2#8] : List Byte) ++ (seg b1 0 (min b1.length 40))).length)).length, cap33) : Option Addr × Nat × Nat))), (2, (2, 1, 2, ((a37, (seg ((([] : List Byte) ++ (([1#8, 2#8] : List Byte) ++ (seg b1 0 (min b1.length 40)))) ++ ([7#8, 7#8, 7#8] : List Byte)) 0 ((([1#8, 2#8] : List Byte) ++ (seg b1 0 (min b1.length 40))).length)).length, cap37) : Option Addr × Nat × Nat)))] : List (Int × Int × Int × Int × (Option Addr × Nat × Nat)))]) (⟨pb121, 0, cb121, fun q => VU .u8 (Fb121 q), true⟩ :: ⟨pm123, 0, cm123, fun q => VU .u8 (Fm123 q), true⟩ :: ⟨some b93, 0, 1, fun _ => .int .i64 0, true⟩ :: ⟨some b93, 1, 1, fun _ => .int .i64 1, true⟩ :: ⟨some b93, 2, 1, fun _ => .int .i64 2, true⟩ :: ⟨some b93, 3, 1, fun _ => .slice am123 ((seg ((([] : List Byte) ++ (([1#8, 2#8] : List Byte) ++ (seg b1 0 (min b1.length 40)))) ++ ([7#8, 7#8, 7#8] : List Byte)) 0 ((([1#8, 2#8] : List Byte) ++ (seg b1 0 (min b1.length 40))).length)).length) cm123, true⟩ :: ⟨some b93, 4, 1, fun _ => .int .i64 1, true⟩ :: ⟨some b93, 5, 1, fun _ => .int .i64 2, true⟩ :: ⟨some b93, 6, 1, fun _ => .int .i64 1, true⟩ :: ⟨some b93, 7, 1, fun _ => .slice a93_1 ((seg ((([] : List Byte) ++ (([1#8, 2#8] : List Byte) ++ (seg b1 0 (min b1.length 40)))) ++ ([7#8, 7#8, 7#8] : List Byte)) 0 ((([1#8, 2#8] : List Byte) ++ (seg b1 0 (min b1.length 40))).length)).length) cap93_1, true⟩ :: ⟨some b93, 8, 1, fun _ => .int .i64 2, true⟩ :: ⟨some b93, 9, 1, fun _ => .int .i64 1, true⟩ :: ⟨some b93, 10, 1, fun _ => .int .i64 2, true⟩ :: ⟨some b93, 11, 1, fun _ => .slice a93_2 ((seg ((([] : List Byte) ++ (([1#8, 2#8] : List Byte) ++ (seg b1 0 (min b1.length 40)))) ++ ([7#8, 7#8, 7#8] : List Byte)) 0 ((([1#8, 2#8] : List Byte) ++ (seg b1 0 (min b1.length 40))).length)).length) cap93_2, true⟩ :: ⟨pb93_1, 0, cap93_1, fun q => VU .u8 (F93_1 q), true⟩ :: ⟨pb93_2, 0, cap93_2, fun q => VU .u8 (F93_2 q), true⟩ :: ⟨some b5, 0, 1, fun _ => .int .i64 2, true⟩ :: ⟨some b5, 1, 1, fun _ => .int .i64 9, true⟩ :: ⟨some b5, 2, 1, fun _ => .map (some m5), true⟩ :: ⟨some b5, 3, 1, fun _ => .int .i64 3, true⟩ :: ⟨some b89, 0, 1, fun _ => .int .i64 0, true⟩ :: ⟨some b89, 1, 1, fun _ => .int .i64 1, true⟩ :: ⟨some b89, 2, 1, fun _ => .int .i64 2, true⟩ :: ⟨some b89, 3, 1, fun _ => .slice a89_0 ((seg ((([] : List Byte) ++ (([1#8, 2#8] : List Byte) ++ (seg b1 0 (min b1.length 40)))) ++ ([7#8, 7#8, 7#8] : List Byte)) 0 ((([1#8, 2#8] : List Byte) ++ (seg b1 0 (min b1.length 40))).length)).length) cap89_0, true⟩ :: ⟨some b89, 4, 1, fun _ => .int .i64 1, true⟩ :: ⟨some b89, 5, 1, fun _ => .int .i64 2, true⟩ :: ⟨some b89, 6, 1, fun _ => .int .i64 1, true⟩ :: ⟨some b89, 7, 1, fun _ => .slice a89_1 ((seg ((([] : List Byte) ++ (([1#8, 2#8] : List Byte) ++ (seg b1 0 (min b1.length 40)))) ++ ([7#8, 7#8, 7#8] : List Byte)) 0 ((([1#8, 2#8] : List Byte) ++ (seg b1 0 (min b1.length 40))).length)).length) cap89_1, true⟩ :: ⟨some b89, 8, 1, fun _ => .int .i64 2, true⟩ :: ⟨some b89, 9, 1, fun _ => .int .i64 1, true⟩ :: ⟨some b89, 10, 1, fun _ => .int .i64 2, true⟩ :: ⟨some b89, 11, 1, fun _ => .slice a89_2 ((seg ((([] : List Byte) ++ (([1#8, 2#8] : List Byte) ++ (seg b1 0 (min b1.length 40)))) ++ ([7#8, 7#8, 7#8] : List Byte)) 0 ((([1#8, 2#8] : List Byte) ++ (seg b1 0 (min b1.length 40))).length)).length) cap89_2, true⟩ :: ⟨pb89_0, 0, cap89_0, fun q => VU .u8 (F89_0 q), true⟩ :: ⟨pb89_1, 0, cap89_1, fun q => VU .u8 (F89_1 q), true⟩ :: ⟨pb89_2, 0, cap89_2, fun q => VU .u8 (F89_2 q), true⟩ :: ⟨pb37, 0, cap37, fun q => VU .u8 (F37 q), true⟩ :: ⟨pb33, 0, cap33, fun q => VU .u8 (F33 q), true⟩ :: ⟨pb27, 0, cap27, fun q => VU .u8 (F27 q), true⟩ :: L) w ∧ Ow ab121 pb121 ((([1#8, 2#8] : List Byte) ++ (seg b1 0 (min b1.length 40))).length) cb121 Fb121 s126.1 ∧ Ow am123 pm123 ((seg ((([] : List Byte) ++ (([1#8, 2#8] : List Byte) ++ (seg b1 0 (min b1.length 40)))) ++ ([7#8, 7#8, 7#8] : List Byte)) 0 ((([1#8, 2#8] : List Byte) ++ (seg b1 0 (min b1.length 40))).length)).length) cm123 Fm123 s126.2.2) ⟨ab73, pb73, cb73, Fb73, a93_0, pb93_0, cap93_0, F93_0, (zer (zer (zer (zer (zer (zer (zer zen))))))), h127, hb73, ho93_0⟩ ?_
    rintro ⟨b121, i_122, m123⟩ o126 hR hx126 ev128 wl128 ⟨ab121, pb121, cb121, Fb121, am123, pm123, cm123, Fm123, he128, h128, hb121, hm123⟩
    obtain ⟨ev128, rfl⟩ := he128.open
    unfold lethelaw23_NetHands_l1 at hR
    refine W.seq_k fun _ k129 => W.seq_k fun _ k130 => ?_
    refine W.regionT [(0, true), (1, true), (2, true), (3, true), (4, true), (5, true), (6, true), (7, true)] (by kernel_rfl) ?_
    refine Plan.move_int rfl rfl <| Plan.move_slice rfl rfl <| Plan.move_int rfl rfl <| Plan.idxSlO (j := 0) (o' := 0) FNetHands.sl57 rfl rfl rfl (by omega) rfl <| Plan.fieldAddr 3 FNetHands.fld60_3 rfl rfl <| Plan.load0 h128 5 rfl rfl rfl (by omega) FNetHands.sc23 <| Plan.len FNetHands.isl23 rfl rfl <| Plan.cmpP (a := (((i_122 : Nat) : Int) : Int)) (b := ((((seg ((([] : List Byte) ++ (([1#8, 2#8] : List Byte) ++ (seg b1 0 (min b1.length 40)))) ++ ([7#8, 7#8, 7#8] : List Byte)) 0 ((([1#8, 2#8] : List Byte) ++ (seg b1 0 (min b1.length 40))).length)).length : Nat) : Int) : Int)) (p := i_122 < (seg ((([] : List Byte) ++ (([1#8, 2#8] : List Byte) ++ (seg b1 0 (min b1.length 40)))) ++ ([7#8, 7#8, 7#8] : List Byte)) 0 ((([1#8, 2#8] : List Byte) ++ (seg b1 0 (min b1.length 40))).length)).length) rfl rfl rfl rfl icmp_ltN ?_
    refine Plan.nil (k130 _ _ ?_); clear k130
    by_cases hc131 : i_122 < (seg ((([] : List Byte) ++ (([1#8, 2#8] : List Byte) ++ (seg b1 0 (min b1.length 40)))) ++ ([7#8, 7#8, 7#8] : List Byte)) 0 ((([1#8, 2#8] : List Byte) ++ (seg b1 0 (min b1.length 40))).length)).length
    ·
     replace hR := ifT hR hc131
     refine W.condT (congrArg Value.bool (decide_eq_true hc131)) ?_
     refine W.skip ?_
     refine k129 _ _ ?_; clear k129
     refine W.seq_k fun _ k132 => ?_
     refine W.block ?_
     refine W.regionT [(0, true), (1, true), (2, true), (3, true), (4, true), (5, true), (6, true), (7, true), (8, true), (9, true), (10, true), (11, false)] (by kernel_rfl) ?_
     refine Plan.move_slice rfl rfl <| Plan.move_int rfl rfl <| Plan.idxSlO (j := 0) (o' := 0) FNetHands.sl57 rfl rfl rfl (by omega) rfl <| Plan.fieldAddr 3 FNetHands.fld60_3 rfl rfl <| Plan.load0 h128 5 rfl rfl rfl (by omega) FNetHands.sc23 <| Plan.move_int rfl rfl <| Plan.move_int rfl rfl <| Plan.move_int rfl rfl ?_
     refine Plan.addW (a := mark2) (b := 0) rfl rfl rfl <| Plan.convIU .u8 (a := (w64 (mark2 + 0))) FNetHands.u5 FNetHands.some3 rfl rfl ?_
     obtain ⟨hc133, hR⟩ := hR
     refine Plan.idxVS (j := i_122) h128 (hm123.bx 1 rfl) FNetHands.sl23 rfl rfl rfl hc133 ?_
     refine Plan.storeO (j := i_122) (Y := (BitVec.ofInt 8 (w64 (mark2 + 0)))) h128 1 hm123 rfl rfl rfl rfl hc133 FNetHands.sz5 rfl fun w134 F134 ho134 h134 => ?_
     simp only [zca, zna, zsz, zss] at h134
     have e134 : (m123.set i_122 (BitVec.ofInt 8 (w64 (mark2 + 0)))).length = m123.length := List.length_set
     refine Plan.nil ?_
     refine blockR_norm ?_
     refine k132 _ _ ?_; clear k132
     refine W.regionT [(0, true), (1, true), (2, true)] (by kernel_rfl) ?_
     refine Plan.move_int rfl rfl ?_
     obtain ⟨hc135, hR⟩ := hR
     refine Plan.addN (a := i_122) (b := 1) rfl rfl rfl (by omega) <| Plan.assign_int rfl rfl <| Plan.nil ?_
     exact iterR_norm ⟨_, hR, ab121, pb121, cb121, Fb121, am123, pm123, cm123, F134, (zer (zer (zer (zer (zer (zer (zer zen))))))), h134, hb121, (show Ow _ _ ((seg ((([] : List Byte) ++ (([1#8, 2#8] : List Byte) ++ (seg b1 0 (min b1.length 40)))) ++ ([7#8, 7#8, 7#8] : List Byte)) 0 ((([1#8, 2#8] : List Byte) ++ (seg b1 0 (min b1.length 40))).length)).length) _ _ _ from ho134)⟩
    ·
     replace hR := ifF hR hc131
     refine W.condF (congrArg Value.bool (decide_eq_false hc131)) ?_
     refine W.exit (thenR_exit (iterR_exit (blockR_here ?_)))
     exact ⟨b121, m123, (hx126 _ hR).symm, ab121, pb121, cb121, Fb121, am123, pm123, cm123, Fm123, (zer (zer (zer (zer (zer (zer zen)))))), h128, hb121, hm123⟩
   ·
    rintro ev136 wl136 ⟨y_b124, y_m125, hy136, ab124, pb124, cb124, Fb124, am125, pm125, cm125, Fm125, he136, h136, hb124, hm125⟩
    obtain ⟨ev136, rfl⟩ := he136.open
    cases hy136
    replace hR := hR0126
    refine k102 _ _ ?_; clear k102
    refine W.regionT [(0, true), (1, true), (2, true), (3, true), (4, true), (5, false)] (by kernel_rfl) ?_
    refine Plan.move_slice rfl rfl <| Plan.move_int rfl rfl <| Plan.move_int rfl rfl <| Plan.idxSlO (j := 0) (o' := 0) FNetHands.sl57 rfl rfl rfl (by omega) rfl <| Plan.fieldAddr0 FNetHands.fld60_0 rfl rfl ?_
    refine Plan.storeC_int h136 2 rfl rfl rfl rfl FNetHands.sz3 rfl fun w137 h137 => ?_
    simp only [zca, zna, zsz, zss] at h137
    refine Plan.nil ?_
    refine blockR_norm ?_
    refine k101 _ _ ?_; clear k101
    refine W.regionT [(0, true), (1, true), (2, true)] (by kernel_rfl) ?_
    refine Plan.move_int rfl rfl <| Plan.addN (a := 0) (b := 1) rfl rfl rfl (by omega) <| Plan.assign_int rfl rfl <| Plan.nil ?_
    refine UL.nextT ?_
    refine W.seq_k fun _ k138 => W.seq_k fun _ k139 => ?_
    refine W.regionT [(0, true), (1, true)] (by kernel_rfl) ?_
    refine Plan.move_int rfl rfl <| Plan.cmpP (a := (1 : Int)) (b := (3 : Int)) (p := (1 : Nat) < 3) rfl rfl rfl rfl icmp_ltN <| Plan.nil (k139 _ _ ?_); clear k139
    refine W.condT rfl ?_
    refine W.skip ?_
    refine k138 _ _ ?_; clear k138
    refine W.seq_k fun _ k140 => ?_
    refine W.block ?_
    refine W.seq_k fun _ k141 => W.seq_k fun _ k142 => ?_
    refine W.regionT [(0, true)] (by kernel_rfl) ?_
    refine Plan.assign_int rfl rfl <| Plan.nil (k142 _ _ ?_); clear k142
    obtain ⟨b163, m164, hI165, hR0165⟩ := hR
    refine W.cutN (fun e w => ∃ y_b163 : List Byte, ∃ y_m164 : List Byte, (b163, m164) = (y_b163, y_m164) ∧ ∃ ab163 : Option Addr, ∃ pb163 : Option Nat, ∃ cb163 : Nat, ∃ Fb163 : Nat → Byte, ∃ am164 : Option Addr, ∃ pm164 : Option Nat, ∃ cm164 : Nat, ∃ Fm164 : Nat → Byte, EnvHas e [(0, .slice ab163 ((([1#8, 2#8] : List Byte) ++ (seg b1 0 (min b1.length 40))).length) cb163), (1, .int .i64 mark2), (5, .pointer (some ⟨b5, 0, none⟩)), (15, .slice (some ⟨b89, 0, none⟩) 3 cap89), (16, .slice (some ⟨b93, 0, none⟩) 3 cap93), (17, VN 1)] ∧ St B (w0.on [mapR kvI D60 [] m5 ([(0, (0, 1, 2, ((a27, (seg ((([] : List Byte) ++ (([1#8, 2#8] : List Byte) ++ (seg b1 0 (min b1.length 40)))) ++ ([7#8, 7#8, 7#8] : List Byte)) 0 ((([1#8, 2#8] : List Byte) ++ (seg b1 0 (min b1.length 40))).length)).length, cap27) : Option Addr × Nat × Nat))), (1, (1, 2, 1, ((a33, (seg ((([] : List Byte) ++ (([1#8, 2#8] : List Byte) ++ (seg b1 0 (min b1.length 40)))) ++ ([7#8, 7#8, 7#8] : List Byte)) 0 ((([1#8, 2#8] : List Byte) ++ (seg b1 0 (min b1.length 40))).length)).length, cap33) : Option Addr × Nat × Nat))), (2, (2, 1, 2, ((a37, (seg ((([] : List Byte) ++ (([1#8, 2#8] : List Byte) ++ (seg b1 0 (min b1.length 40)))) ++ ([7#8, 7#8, 7#8] : List Byte)) 0 ((([1#8, 2#8] : List Byte) ++ (seg b1 0 (min b1.length 40))).length)).length, cap37) : Option Addr × Nat × Nat)))] : List (Int × Int × Int × Int × (Option Addr × Nat × Nat)))]) (⟨pb163, 0, cb163, fun q => VU .u8 (Fb163 q), true⟩ :: ⟨pm164, 0, cm164, fun q => VU .u8 (Fm164 q), true⟩ :: ⟨pm125, 0, cm125, fun q => VU .u8 (Fm125 q), true⟩ :: ⟨some b93, 0, 1, fun _ => .int .i64 mark2, true⟩ :: ⟨some b93, 1, 1, fun _ => .int .i64 1, true⟩ :: ⟨some b93, 2, 1, fun _ => .int .i64 2, true⟩ :: ⟨some b93, 3, 1, fun _ => .slice am125 ((seg ((([] : List Byte) ++ (([1#8, 2#8] : List Byte) ++ (seg b1 0 (min b1.length 40)))) ++ ([7#8, 7#8, 7#8] : List Byte)) 0 ((([1#8, 2#8] : List Byte) ++ (seg b1 0 (min b1.length 40))).length)).length) cm125, true⟩ :: ⟨some b93, 4, 1, fun _ => .int .i64 1, true⟩ :: ⟨some b93, 5, 1, fun _ => .int .i64 2, true⟩ :: ⟨some b93, 6, 1, fun _ => .int .i64 1, true⟩ :: ⟨some b93, 7, 1, fun _ => .slice am164 ((seg ((([] : List Byte) ++ (([1#8, 2#8] : List Byte) ++ (seg b1 0 (min b1.length 40)))) ++ ([7#8, 7#8, 7#8] : List Byte)) 0 ((([1#8, 2#8] : List Byte) ++ (seg b1 0 (min b1.length 40))).length)).length) cm164, true⟩ :: ⟨some b93, 8, 1, fun _ => .int .i64 2, true⟩ :: ⟨some b93, 9, 1, fun _ => .int .i64 1, true⟩ :: ⟨some b93, 10, 1, fun _ => .int .i64 2, true⟩ :: ⟨some b93, 11, 1, fun _ => .slice a93_2 ((seg ((([] : List Byte) ++ (([1#8, 2#8] : List Byte) ++ (seg b1 0 (min b1.length 40)))) ++ ([7#8, 7#8, 7#8] : List Byte)) 0 ((([1#8, 2#8] : List Byte) ++ (seg b1 0 (min b1.length 40))).length)).length) cap93_2, true⟩ :: ⟨pb93_2, 0, cap93_2, fun q => VU .u8 (F93_2 q), true⟩ :: ⟨some b5, 0, 1, fun _ => .int .i64 2, true⟩ :: ⟨some b5, 1, 1, fun _ => .int .i64 9, true⟩ :: ⟨some b5, 2, 1, fun _ => .map (some m5), true⟩ :: ⟨some b5, 3, 1, fun _ => .int .i64 3, true⟩ :: ⟨some b89, 0, 1, fun _ => .int .i64 0, true⟩ :: ⟨some b89, 1, 1, fun _ => .int .i64 1, true⟩ :: ⟨some b89, 2, 1, fun _ => .int .i64 2, true⟩ :: ⟨some b89, 3, 1, fun _ => .slice a89_0 ((seg ((([] : List Byte) ++ (([1#8, 2#8] : List Byte) ++ (seg b1 0 (min b1.length 40)))) ++ ([7#8, 7#8, 7#8] : List Byte)) 0 ((([1#8, 2#8] : List Byte) ++ (seg b1 0 (min b1.length 40))).length)).length) cap89_0, true⟩ :: ⟨some b89, 4, 1, fun _ => .int .i64 1, true⟩ :: ⟨some b89, 5, 1, fun _ => .int .i64 2, true⟩ :: ⟨some b89, 6, 1, fun _ => .int .i64 1, true⟩ :: ⟨some b89, 7, 1, fun _ => .slice a89_1 ((seg ((([] : List Byte) ++ (([1#8, 2#8] : List Byte) ++ (seg b1 0 (min b1.length 40)))) ++ ([7#8, 7#8, 7#8] : List Byte)) 0 ((([1#8, 2#8] : List Byte) ++ (seg b1 0 (min b1.length 40))).length)).length) cap89_1, true⟩ :: ⟨some b89, 8, 1, fun _ => .int .i64 2, true⟩ :: ⟨some b89, 9, 1, fun _ => .int .i64 1, true⟩ :: ⟨some b89, 10, 1, fun _ => .int .i64 2, true⟩ :: ⟨some b89, 11, 1, fun _ => .slice a89_2 ((seg ((([] : List Byte) ++ (([1#8, 2#8] : List Byte) ++ (seg b1 0 (min b1.length 40)))) ++ ([7#8, 7#8, 7#8] : List Byte)) 0 ((([1#8, 2#8] : List Byte) ++ (seg b1 0 (min b1.length 40))).length)).length) cap89_2, true⟩ :: ⟨pb89_0, 0, cap89_0, fun q => VU .u8 (F89_0 q), true⟩ :: ⟨pb89_1, 0, cap89_1, fun q => VU .u8 (F89_1 q), true⟩ :: ⟨pb89_2, 0, cap89_2, fun q => VU .u8 (F89_2 q), true⟩ :: ⟨pb37, 0, cap37, fun q => VU .u8 (F37 q), true⟩ :: ⟨pb33, 0, cap33, fun q => VU .u8 (F33 q), true⟩ :: ⟨pb27, 0, cap27, fun q => VU .u8 (F27 q), true⟩ :: L) w ∧ Ow ab163 pb163 ((([1#8, 2#8] : List Byte) ++ (seg b1 0 (min b1.length 40))).length) cb163 Fb163 y_b163 ∧ Ow am164 pm164 ((seg ((([] : List Byte) ++ (([1#8, 2#8] : List Byte) ++ (seg b1 0 (min b1.length 40)))) ++ ([7#8, 7#8, 7#8] : List Byte)) 0 ((([1#8, 2#8] : List Byte) ++ (seg b1 0 (min b1.length 40))).length)).length) cm164 Fm164 y_m164) ?_ ?_
    ·
     refine W.block ?_
     have h166 := St.pickT (C := [_, _, _, _, _, _, _, _, _, _, _, _, _, _, _, _, _, _, _, _, _, _, _, _, _, _, _, _, _, _, _, _, _, _, _, _, _, _]) h137 [0, 14, 1, 2, 3, 4, 5, 6, 7, 8, 9, 10, 11, 12, 13, 15, 16, 17, 18, 19, 20, 21, 22, 23, 24, 25, 26, 27, 28, 29, 30, 31, 32, 33, 34, 35, 36, 37] (by decide)
     simp only [pick, zfc, zfn, zgz, zgs, zca, zna] at h166
     refine W.iter hI165 (fun (s165 : ((List Byte) × Nat × (List Byte))) e w => ∃ ab160 : Option Addr, ∃ pb160 : Option Nat, ∃ cb160 : Nat, ∃ Fb160 : Nat → Byte, ∃ am162 : Option Addr, ∃ pm162 : Option Nat, ∃ cm162 : Nat, ∃ Fm162 : Nat → Byte, EnvHas e [(0, .slice ab160 ((([1#8, 2#8] : List Byte) ++ (seg b1 0 (min b1.length 40))).length) cb160), (1, .int .i64 mark2), (5, .pointer (some ⟨b5, 0, none⟩)), (15, .slice (some ⟨b89, 0, none⟩) 3 cap89), (16, .slice (some ⟨b93, 0, none⟩) 3 cap93), (17, VN 1), (18, VN s165.2.1)] ∧ St B (w0.on [mapR kvI D60 [] m5 ([(0, (0, 1, 2, ((a27, (seg ((([] : List Byte) ++ (([1#8, 2#8] : List Byte) ++ (seg b1 0 (min b1.length 40)))) ++ ([7#8, 7#8, 7#8] : List Byte)) 0 ((([1#8, 2#8] : List Byte) ++ (seg b1 0 (min b1.length 40))).length)).length, cap27) : Option Addr × Nat × Nat))), (1, (1, 2, 1, ((a33, (seg ((([] : List Byte) ++ (([1#8, 2#8] : List Byte) ++ (seg b1 0 (min b1.length 40)))) ++ ([7#8, 7#8, 7#8] : List Byte)) 0 ((([1#8, 2#8] : List Byte) ++ (seg b1 0 (min b1.length 40))).length)).length, cap33) : Option Addr × Nat × Nat))), (2, (2, 1, 2, ((a37, (seg ((([] : List Byte) ++ (([1#8, 2#8] : List Byte) ++ (seg b1 0 (min b1.length 40)))) ++ ([7#8, 7#8, 7#8] : List Byte)) 0 ((([1#8, 2#8] : List Byte) ++ (seg b1 0 (min b1.length 40))).length)).length, cap37) : Option Addr × Nat × Nat)))] : List (Int × Int × Int × Int × (Option Addr × Nat × Nat)))]) (⟨pb160, 0, cb160, fun q => VU .u8 (Fb160 q), true⟩ :: ⟨pm162, 0, cm162, fun q => VU .u8 (Fm162 q), true⟩ :: ⟨pm125, 0, cm125, fun q => VU .u8 (Fm125 q), true⟩ :: ⟨some b93, 0, 1, fun _ => .int .i64 mark2, true⟩ :: ⟨some b93, 1, 1, fun _ => .int .i64 1, true⟩ :: ⟨some b93, 2, 1, fun _ => .int .i64 2, true⟩ :: ⟨some b93, 3, 1, fun _ => .slice am125 ((seg ((([] : List Byte) ++ (([1#8, 2#8] : List Byte) ++ (seg b1 0 (min b1.length 40)))) ++ ([7#8, 7#8, 7#8] : List Byte)) 0 ((([1#8, 2#8] : List Byte) ++ (seg b1 0 (min b1.length 40))).length)).length) cm125, true⟩ :: ⟨some b93, 4, 1, fun _ => .int .i64 1, true⟩ :: ⟨some b93, 5, 1, fun _ => .int .i64 2, true⟩ :: ⟨some b93, 6, 1, fun _ => .int .i64 1, true⟩ :: ⟨some b93, 7, 1, fun _ => .slice am162 ((seg ((([] : List Byte) ++ (([1#8, 2#8] : List Byte) ++ (seg b1 0 (min b1.length 40)))) ++ ([7#8, 7#8, 7#8] : List Byte)) 0 ((([1#8, 2#8] : List Byte) ++ (seg b1 0 (min b1.length 40))).length)).length) cm162, true⟩ :: ⟨some b93, 8, 1, fun _ => .int .i64 2, true⟩ :: ⟨some b93, 9, 1, fun _ => .int .i64 1, true⟩ :: ⟨some b93, 10, 1, fun _ => .int .i64 2, true⟩ :: ⟨some b93, 11, 1, fun _ => .slice a93_2 ((seg ((([] : List Byte) ++ (([1#8, 2#8] : List Byte) ++ (seg b1 0 (min b1.length 40)))) ++ ([7#8, 7#8, 7#8] : List Byte)) 0 ((([1#8, 2#8] : List Byte) ++ (seg b1 0 (min b1.length 40))).length)).length) cap93_2, true⟩ :: ⟨pb93_2, 0, cap93_2, fun q => VU .u8 (F93_2 q), true⟩ :: ⟨some b5, 0, 1, fun _ => .int .i64 2, true⟩ :: ⟨some b5, 1, 1, fun _ => .int .i64 9, true⟩ :: ⟨some b5, 2, 1, fun _ => .map (some m5), true⟩ :: ⟨some b5, 3, 1, fun _ => .int .i64 3, true⟩ :: ⟨some b89, 0, 1, fun _ => .int .i64 0, true⟩ :: ⟨some b89, 1, 1, fun _ => .int .i64 1, true⟩ :: ⟨some b89, 2, 1, fun _ => .int .i64 2, true⟩ :: ⟨some b89, 3, 1, fun _ => .slice a89_0 ((seg ((([] : List Byte) ++ (([1#8, 2#8] : List Byte) ++ (seg b1 0 (min b1.length 40)))) ++ ([7#8, 7#8, 7#8] : List Byte)) 0 ((([1#8, 2#8] : List Byte) ++ (seg b1 0 (min b1.length 40))).length)).length) cap89_0, true⟩ :: ⟨some b89, 4, 1, fun _ => .int .i64 1, true⟩ :: ⟨some b89, 5, 1, fun _ => .int .i64 2, true⟩ :: ⟨some b89, 6, 1, fun _ => .int .i64 1, true⟩ :: ⟨some b89, 7, 1, fun _ => .slice a89_1 ((seg ((([] : List Byte) ++ (([1#8, 2#8] : List Byte) ++ (seg b1 0 (min b1.length 40)))) ++ ([7#8, 7#8, 7#8] : List Byte)) 0 ((([1#8, 2#8] : List Byte) ++ (seg b1 0 (min b1.length 40))).length)).length) cap89_1, true⟩ :: ⟨some b89, 8, 1, fun _ => .int .i64 2, true⟩ :: ⟨some b89, 9, 1, fun _ => .int .i64 1, true⟩ :: ⟨some b89, 10, 1, fun _ => .int .i64 2, true⟩ :: ⟨some b89, 11, 1, fun _ => .slice a89_2 ((seg ((([] : List Byte) ++ (([1#8, 2#8] : List Byte) ++ (seg b1 0 (min b1.length 40)))) ++ ([7#8, 7#8, 7#8] : List Byte)) 0 ((([1#8, 2#8] : List Byte) ++ (seg b1 0 (min b1.length 40))).length)).length) cap89_2, true⟩ :: ⟨pb89_0, 0, cap89_0, fun q => VU .u8 (F89_0 q), true⟩ :: ⟨pb89_1, 0, cap89_1, fun q => VU .u8 (F89_1 q), true⟩ :: ⟨pb89_2, 0, cap89_2, fun q => VU .u8 (F89_2 q), true⟩ :: ⟨pb37, 0, cap37, fun q => VU .u8 (F37 q), true⟩ :: ⟨pb33, 0, cap33, fun q => VU .u8 (F33 q), true⟩ :: ⟨pb27, 0, cap27, fun q => VU .u8 (F27 q), true⟩ :: L) w ∧ Ow ab160 pb160 ((([1#8, 2#8] : List Byte) ++ (seg b1 0 (min b1.length 40))).length) cb160 Fb160 s165.1 ∧ Ow am162 pm162 ((seg ((([] : List Byte) ++ (([1#8, 2#8] : List Byte) ++ (seg b1 0 (min b1.length 40)))) ++ ([7#8, 7#8, 7#8] : List Byte)) 0 ((([1#8, 2#8] : List Byte) ++ (seg b1 0 (min b1.length 40))).length)).length) cm162 Fm162 s165.2.2) ⟨ab124, pb124, cb124, Fb124, a93_1, pb93_1, cap93_1, F93_1, (zer (zer (zer (zer (zer (zer (zer zen))))))), h166, hb124, ho93_1⟩ ?_
     rintro ⟨b160, i_161, m162⟩ o165 hR hx165 ev167 wl167 ⟨ab160, pb160, cb160, Fb160, am162, pm162, cm162, Fm162, he167, h167, hb160, hm162⟩
     obtain ⟨ev167, rfl⟩ := he167.open
     unfold lethelaw23_NetHands_l2 at hR
     refine W.seq_k fun _ k168 => W.seq_k fun _ k169 => ?_
     refine W.regionT [(0, true), (1, true), (2, true), (3, true), (4, true), (5, true), (6, true), (7, true)] (by kernel_rfl) ?_
     refine Plan.move_int rfl rfl <| Plan.move_slice rfl rfl <| Plan.move_int rfl rfl <| Plan.idxSlO (j := 1) (o' := 4) FNetHands.sl57 rfl rfl rfl (by omega) rfl <| Plan.fieldAddr 3 FNetHands.fld60_3 rfl rfl <| Plan.load0 h167 10 rfl rfl rfl (by omega) FNetHands.sc23 <| Plan.len FNetHands.isl23 rfl rfl <| Plan.cmpP (a := (((i_161 : Nat) : Int) : Int)) (b := ((((seg ((([] : List Byte) ++ (([1#8, 2#8] : List Byte) ++ (seg b1 0 (min b1.length 40)))) ++ ([7#8, 7#8, 7#8] : List Byte)) 0 ((([1#8, 2#8] : List Byte) ++ (seg b1 0 (min b1.length 40))).length)).length : Nat) : Int) : Int)) (p := i_161 < (seg ((([] : List Byte) ++ (([1#8, 2#8] : List Byte) ++ (seg b1 0 (min b1.length 40)))) ++ ([7#8, 7#8, 7#8] : List Byte)) 0 ((([1#8, 2#8] : List Byte) ++ (seg b1 0 (min b1.length 40))).length)).length) rfl rfl rfl rfl icmp_ltN ?_
     refine Plan.nil (k169 _ _ ?_); clear k169
     by_cases hc170 : i_161 < (seg ((([] : List Byte) ++ (([1#8, 2#8] : List Byte) ++ (seg b1 0 (min b1.length 40)))) ++ ([7#8, 7#8, 7#8] : List Byte)) 0 ((([1#8, 2#8] : List Byte) ++ (seg b1 0 (min b1.length 40))).length)).length
     ·
      replace hR := ifT hR hc170
      refine W.condT (congrArg Value.bool (decide_eq_true hc170)) ?_
      refine W.skip ?_
      refine k168 _ _ ?_; clear k168
      refine W.seq_k fun _ k171 => ?_
      refine W.block ?_
      refine W.regionT [(0, true), (1, true), (2, true), (3, true), (4, true), (5, true), (6, true), (7, true), (8, true), (9, true), (10, true), (11, false)] (by kernel_rfl) ?_
      refine Plan.move_slice rfl rfl <| Plan.move_int rfl rfl <| Plan.idxSlO (j := 1) (o' := 4) FNetHands.sl57 rfl rfl rfl (by omega) rfl <| Plan.fieldAddr 3 FNetHands.fld60_3 rfl rfl <| Plan.load0 h167 10 rfl rfl rfl (by omega) FNetHands.sc23 <| Plan.move_int rfl rfl <| Plan.move_int rfl rfl <| Plan.move_int rfl rfl ?_
      refine Plan.addW (a := mark2) (b := 1) rfl rfl rfl <| Plan.convIU .u8 (a := (w64 (mark2 + 1))) FNetHands.u5 FNetHands.some3 rfl rfl ?_
      obtain ⟨hc172, hR⟩ := hR
      refine Plan.idxVS (j := i_161) h167 (hm162.bx 1 rfl) FNetHands.sl23 rfl rfl rfl hc172 ?_
      refine Plan.storeO (j := i_161) (Y := (BitVec.ofInt 8 (w64 (mark2 + 1)))) h167 1 hm162 rfl rfl rfl rfl hc172 FNetHands.sz5 rfl fun w173 F173 ho173 h173 => ?_
      simp only [zca, zna, zsz, zss] at h173
      have e173 : (m162.set i_161 (BitVec.ofInt 8 (w64 (mark2 + 1)))).length = m162.length := List.length_set
      refine Plan.nil ?_
      refine blockR_norm ?_
      refine k171 _ _ ?_; clear k171
      refine W.regionT [(0, true), (1, true), (2, true)] (by kernel_rfl) ?_
      refine Plan.move_int rfl rfl ?_
      obtain ⟨hc174, hR⟩ := hR
      refine Plan.addN (a := i_161) (b := 1) rfl rfl rfl (by omega) <| Plan.assign_int rfl rfl <| Plan.nil ?_
      exact iterR_norm ⟨_, hR, ab160, pb160, cb160, Fb160, am162, pm162, cm162, F173, (zer (zer (zer (zer (zer (zer (zer zen))))))), h173, hb160, (show Ow _ _ ((seg ((([] : List Byte) ++ (([1#8, 2#8] : List Byte) ++ (seg b1 0 (min b1.length 40)))) ++ ([7#8, 7#8, 7#8] : List Byte)) 0 ((([1#8, 2#8] : List Byte) ++ (seg b1 0 (min b1.length 40))).length)).length) _ _ _ from ho173)⟩
     ·
      replace hR := ifF hR hc170
      refine W.condF (congrArg Value.bool (decide_eq_false hc170)) ?_
      refine W.exit (thenR_exit (iterR_exit (blockR_here ?_)))
      exact ⟨b160, m162, (hx165 _ hR).symm, ab160, pb160, cb160, Fb160, am162, pm162, cm162, Fm162, (zer (zer (zer (zer (zer (zer zen)))))), h167, hb160, hm162⟩
    ·
     rintro ev175 wl175 ⟨y_b163, y_m164, hy175, ab163, pb163, cb163, Fb163, am164, pm164, cm164, Fm164, he175, h175, hb163, hm164⟩
     obtain ⟨ev175, rfl⟩ := he175.open
     cases hy175
     replace hR := hR0165
     refine k141 _ _ ?_; clear k141
     refine W.regionT [(0, true), (1, true), (2, true), (3, true), (4, true), (5, false)] (by kernel_rfl) ?_
     refine Plan.move_slice rfl rfl <| Plan.move_int rfl rfl <| Plan.move_int rfl rfl <| Plan.idxSlO (j := 1) (o' := 4) FNetHands.sl57 rfl rfl rfl (by omega) rfl <| Plan.fieldAddr0 FNetHands.fld60_0 rfl rfl ?_
     refine Plan.storeC_int h175 7 rfl rfl rfl rfl FNetHands.sz3 rfl fun w176 h176 => ?_
     simp only [zca, zna, zsz, zss] at h176
     refine Plan.nil ?_
     refine blockR_norm ?_
     refine k140 _ _ ?_; clear k140
     refine W.regionT [(0, true), (1, true), (2, true)] (by kernel_rfl) ?_
     refine Plan.move_int rfl rfl <| Plan.addN (a := 1) (b := 1) rfl rfl rfl (by omega) <| Plan.assign_int rfl rfl <| Plan.nil ?_
     refine UL.nextT ?_
     refine W.seq_k fun _ k177 => W.seq_k fun _ k178 => ?_
     refine W.regionT [(0, true), (1, true)] (by kernel_rfl) ?_
     refine Plan.move_int rfl rfl <| Plan.cmpP (a := (2 : Int)) (b := (3 : Int)) (p := (2 : Nat) < 3) rfl rfl rfl rfl icmp_ltN <| Plan.nil (k178 _ _ ?_); clear k178
     refine W.condT rfl ?_
     refine W.skip ?_
     refine k177 _ _ ?_; clear k177
     refine W.seq_k fun _ k179 => ?_
     refine W.block ?_
     refine W.seq_k fun _ k180 => W.seq_k fun _ k181 => ?_
     refine W.regionT [(0, true)] (by kernel_rfl) ?_
     refine Plan.assign_int rfl rfl <| Plan.nil (k181 _ _ ?_); clear k181
     obtain ⟨b202, m203, hI204, hR0204⟩ := hR
     refine W.cutN (fun e w => ∃ y_b202 : List Byte, ∃ y_m203 : List Byte, (b202, m203) = (y_b202, y_m203) ∧ ∃ ab202 : Option Addr, ∃ pb202 : Option Nat, ∃ cb202 : Nat, ∃ Fb202 : Nat → Byte, ∃ am203 : Option Addr, ∃ pm203 : Option Nat, ∃ cm203 : Nat, ∃ Fm203 : Nat → Byte, EnvHas e [(0, .slice ab202 ((([1#8, 2#8] : List Byte) ++ (seg b1 0 (min b1.length 40))).length) cb202), (1, .int .i64 mark2), (5, .pointer (some ⟨b5, 0, none⟩)), (15, .slice (some ⟨b89, 0, none⟩) 3 cap89), (16, .slice (some ⟨b93, 0, none⟩) 3 cap93), (17, VN 2)] ∧ St B (w0.on [mapR kvI D60 [] m5 ([(0, (0, 1, 2, ((a27, (seg ((([] : List Byte) ++ (([1#8, 2#8] : List Byte) ++ (seg b1 0 (min b1.length 40)))) ++ ([7#8, 7#8, 7#8] : List Byte)) 0 ((([1#8, 2#8] : List Byte) ++ (seg b1 0 (min b1.length 40))).length)).length, cap27) : Option Addr × Nat × Nat))), (1, (1, 2, 1, ((a33, (seg ((([] : List Byte) ++ (([1#8, 2#8] : List Byte) ++ (seg b1 0 (min b1.length 40)))) ++ ([7#8, 7#8, 7#8] : List Byte)) 0 ((([1#8, 2#8] : List Byte) ++ (seg b1 0 (min b1.length 40))).length)).length, cap33) : Option Addr × Nat × Nat))), (2, (2, 1, 2, ((a37, (seg ((([] : List Byte) ++ (([1#8, 2#8] : List Byte) ++ (seg b1 0 (min b1.length 40)))) ++ ([7#8, 7#8, 7#8] : List Byte)) 0 ((([1#8, 2#8] : List Byte) ++ (seg b1 0 (min b1.length 40))).length)).length, cap37) : Option Addr × Nat × Nat)))] : List (Int × Int × Int × Int × (Option Addr × Nat × Nat)))]) (⟨pb202, 0, cb202, fun q => VU .u8 (Fb202 q), true⟩ :: ⟨pm203, 0, cm203, fun q => VU .u8 (Fm203 q), true⟩ :: ⟨pm164, 0, cm164, fun q => VU .u8 (Fm164 q), true⟩ :: ⟨pm125, 0, cm125, fun q => VU .u8 (Fm125 q), true⟩ :: ⟨some b93, 0, 1, fun _ => .int .i64 mark2, true⟩ :: ⟨some b93, 1, 1, fun _ => .int .i64 1, true⟩ :: ⟨some b93, 2, 1, fun _ => .int .i64 2, true⟩ :: ⟨some b93, 3, 1, fun _ => .slice am125 ((seg ((([] : List Byte) ++ (([1#8, 2#8] : List Byte) ++ (seg b1 0 (min b1.length 40)))) ++ ([7#8, 7#8, 7#8] : List Byte)) 0 ((([1#8, 2#8] : List Byte) ++ (seg b1 0 (min b1.length 40))).length)).length) cm125, true⟩ :: ⟨some b93, 4, 1, fun _ => .int .i64 mark2, true⟩ :: ⟨some b93, 5, 1, fun _ => .int .i64 2, true⟩ :: ⟨some b93, 6, 1, fun _ => .int .i64 1, true⟩ :: ⟨some b93, 7, 1, fun _ => .slice am164 ((seg ((([] : List Byte) ++ (([1#8, 2#8] : List Byte) ++ (seg b1 0 (min b1.length 40)))) ++ ([7#8, 7#8, 7#8] : List Byte)) 0 ((([1#8, 2#8] : List Byte) ++ (seg b1 0 (min b1.length 40))).length)).length) cm164, true⟩ :: ⟨some b93, 8, 1, fun _ => .int .i64 2, true⟩ :: ⟨some b93, 9, 1, fun _ => .int .i64 1, true⟩ :: ⟨some b93, 10, 1, fun _ => .int .i64 2, true⟩ :: ⟨some b93, 11, 1, fun _ => .slice am203 ((seg ((([] : List Byte) ++ (([1#8, 2#8] : List Byte) ++ (seg b1 0 (min b1.length 40)))) ++ ([7#8, 7#8, 7#8] : List Byte)) 0 ((([1#8, 2#8] : List Byte) ++ (seg b1 0 (min b1.length 40))).length)).length) cm203, true⟩ :: ⟨some b5, 0, 1, fun _ => .int .i64 2, true⟩ :: ⟨some b5, 1, 1, fun _ => .int .i64 9, true⟩ :: ⟨some b5, 2, 1, fun _ => .map (some m5), true⟩ :: ⟨some b5, 3, 1, fun _ => .int .i64 3, true⟩ :: ⟨some b89, 0, 1, fun _ => .int .i64 0, true⟩ :: ⟨some b89, 1, 1, fun _ => .int .i64 1, true⟩ :: ⟨some b89, 2, 1, fun _ => .int .i64 2, true⟩ :: ⟨some b89, 3, 1, fun _ => .slice a89_0 ((seg ((([] : List Byte) ++ (([1#8, 2#8] : List Byte) ++ (seg b1 0 (min b1.length 40)))) ++ ([7#8, 7#8, 7#8] : List Byte)) 0 ((([1#8, 2#8] : List Byte) ++ (seg b1 0 (min b1.length 40))).length)).length) cap89_0, true⟩ :: ⟨some b89, 4, 1, fun _ => .int .i64 1, true⟩ :: ⟨some b89, 5, 1, fun _ => .int .i64 2, true⟩ :: ⟨some b89, 6, 1, fun _ => .int .i64 1, true⟩ :: ⟨some b89, 7, 1, fun _ => .slice a89_1 ((seg ((([] : List Byte) ++ (([1#8, 2#8] : List Byte) ++ (seg b1 0 (min b1.length 40)))) ++ ([7#8, 7#8, 7#8] : List Byte)) 0 ((([1#8, 2#8] : List Byte) ++ (seg b1 0 (min b1.length 40))).length)).length) cap89_1, true⟩ :: ⟨some b89, 8, 1, fun _ => .int .i64 2, true⟩ :: ⟨some b89, 9, 1, fun _ => .int .i64 1, true⟩ :: ⟨some b89, 10, 1, fun _ => .int .i64 2, true⟩ :: ⟨some b89, 11, 1, fun _ => .slice a89_2 ((seg ((([] : List Byte) ++ (([1#8, 2#8] : List Byte) ++ (seg b1 0 (min b1.length 40)))) ++ ([7#8, 7#8, 7#8] : List Byte)) 0 ((([1#8, 2#8] : List Byte) ++ (seg b1 0 (min b1.length 40))).length)).length) cap89_2, true⟩ :: ⟨pb89_0, 0, cap89_0, fun q => VU .u8 (F89_0 q), true⟩ :: ⟨pb89_1, 0, cap89_1, fun q => VU .u8 (F89_1 q), true⟩ :: ⟨pb89_2, 0, cap89_2, fun q => VU .u8 (F89_2 q), true⟩ :: ⟨pb37, 0, cap37, fun q => VU .u8 (F37 q), true⟩ :: ⟨pb33, 0, cap33, fun q => VU .u8 (F33 q), true⟩ :: ⟨pb27, 0, cap27, fun q => VU .u8 (F27 q), true⟩ :: L) w ∧ Ow ab202 pb202 ((([1#8, 2#8] : List Byte) ++ (seg b1 0 (min b1.length 40))).length) cb202 Fb202 y_b202 ∧ Ow am203 pm203 ((seg ((([] : List Byte) ++ (([1#8, 2#8] : List Byte) ++ (seg b1 0 (min b1.length 40)))) ++ ([7#8, 7#8, 7#8] : List Byte)) 0 ((([1#8, 2#8] : List Byte) ++ (seg b1 0 (min b1.length 40))).length)).length) cm203 Fm203 y_m203) ?_ ?_
     ·
      refine W.block ?_
      have h205 := St.pickT (C := [_, _, _, _, _, _, _, _, _, _, _, _, _, _, _, _, _, _, _, _, _, _, _, _, _, _, _, _, _, _, _, _, _, _, _, _, _, _]) h176 [0, 15, 1, 2, 3, 4, 5, 6, 7, 8, 9, 10, 11, 12, 13, 14, 16, 17, 18, 19, 20, 21, 22, 23, 24, 25, 26, 27, 28, 29, 30, 31, 32, 33, 34, 35, 36, 37] (by decide)
      simp only [pick, zfc, zfn, zgz, zgs, zca, zna] at h205
      refine W.iter hI204 (fun (s204 : ((List Byte) × Nat × (List Byte))) e w => ∃ ab199 : Option Addr, ∃ pb199 : Option Nat, ∃ cb199 : Nat, ∃ Fb199 : Nat → Byte, ∃ am201 : Option Addr, ∃ pm201 : Option Nat, ∃ cm201 : Nat, ∃ Fm201 : Nat → Byte, EnvHas e [(0, .slice ab199 ((([1#8, 2#8] : List Byte) ++ (seg b1 0 (min b1.length 40))).length) cb199), (1, .int .i64 mark2), (5, .pointer (some ⟨b5, 0, none⟩)), (15, .slice (some ⟨b89, 0, none⟩) 3 cap89), (16, .slice (some ⟨b93, 0, none⟩) 3 cap93), (17, VN 2), (18, VN s204.2.1)] ∧ St B (w0.on [mapR kvI D60 [] m5 ([(0, (0, 1, 2, ((a27, (seg ((([] : List Byte) ++ (([1#8, 2#8] : List Byte) ++ (seg b1 0 (min b1.length 40)))) ++ ([7#8, 7#8, 7#8] : List Byte)) 0 ((([1#8, 2#8] : List Byte) ++ (seg b1 0 (min b1.length 40))).length)).length, cap27) : Option Addr × Nat × Nat))), (1, (1, 2, 1, ((a33, (seg ((([] : List Byte) ++ (([1#8, 2#8] : List Byte) ++ (seg b1 0 (min b1.length 40)))) ++ ([7#8, 7#8, 7#8] : List Byte)) 0 ((([1#8, 2#8] : List Byte) ++ (seg b1 0 (min b1.length 40))).length)).length, cap33) : Option Addr × Nat × Nat))), (2, (2, 1, 2, ((a37, (seg ((([] : List Byte) ++ (([1#8, 2#8] : List Byte) ++ (seg b1 0 (min b1.length 40)))) ++ ([7#8, 7#8, 7#8] : List Byte)) 0 ((([1#8, 2#8] : List Byte) ++ (seg b1 0 (min b1.length 40))).length)).length, cap37) : Option Addr × Nat × Nat)))] : List (Int × Int × Int × Int × (Option Addr × Nat × Nat)))]) (⟨pb199, 0, cb199, fun q => VU .u8 (Fb199 q), true⟩ :: ⟨pm201, 0, cm201, fun q => VU .u8 (Fm201 q), true⟩ :: ⟨pm164, 0, cm164, fun q => VU .u8 (Fm164 q), true⟩ :: ⟨pm125, 0, cm125, fun q => VU .u8 (Fm125 q), true⟩ :: ⟨some b93, 0, 1, fun _ => .int .i64 mark2, true⟩ :: ⟨some b93, 1, 1, fun _ => .int .i64 1, true⟩ :: ⟨some b93, 2, 1, fun _ => .int .i64 2, true⟩ :: ⟨some b93, 3, 1, fun _ => .slice am125 ((seg ((([] : List Byte) ++ (([1#8, 2#8] : List Byte) ++ (seg b1 0 (min b1.length 40)))) ++ ([7#8, 7#8, 7#8] : List Byte)) 0 ((([1#8, 2#8] : List Byte) ++ (seg b1 0 (min b1.length 40))).length)).length) cm125, true⟩ :: ⟨some b93, 4, 1, fun _ => .int .i64 mark2, true⟩ :: ⟨some b93, 5, 1, fun _ => .int .i64 2, true⟩ :: ⟨some b93, 6, 1, fun _ => .int .i64 1, true⟩ :: ⟨some b93, 7, 1, fun _ => .slice am164 ((seg ((([] : List Byte) ++ (([1#8, 2#8] : List Byte) ++ (seg b1 0 (min b1.length 40)))) ++ ([7#8, 7#8, 7#8] : List Byte)) 0 ((([1#8, 2#8] : List Byte) ++ (seg b1 0 (min b1.length 40))).length)).length) cm164, true⟩ :: ⟨some b93, 8, 1, fun _ => .int .i64 2, true⟩ :: ⟨some b93, 9, 1, fun _ => .int .i64 1, true⟩ :: ⟨some b93, 10, 1, fun _ => .int .i64 2, true⟩ :: ⟨some b93, 11, 1, fun _ => .slice am201 ((seg ((([] : List Byte) ++ (([1#8, 2#8] : List Byte) ++ (seg b1 0 (min b1.length 40)))) ++ ([7#8, 7#8, 7#8] : List Byte)) 0 ((([1#8, 2#8] : List Byte) ++ (seg b1 0 (min b1.length 40))).length)).length) cm201, true⟩ :: ⟨some b5, 0, 1, fun _ => .int .i64 2, true⟩ :: ⟨some b5, 1, 1, fun _ => .int .i64 9, true⟩ :: ⟨some b5, 2, 1, fun _ => .map (some m5), true⟩ :: ⟨some b5, 3, 1, fun _ => .int .i64 3, true⟩ :: ⟨some b89, 0, 1, fun _ => .int .i64 0, true⟩ :: ⟨some b89, 1, 1, fun _ => .int .i64 1, true⟩ :: ⟨some b89, 2, 1, fun _ => .int .i64 2, true⟩ :: ⟨some b89, 3, 1, fun _ => .slice a89_0 ((seg ((([] : List Byte) ++ (([1#8, 2#8] : List Byte) ++ (seg b1 0 (min b1.length 40)))) ++ ([7#8, 7#8, 7#8] : List Byte)) 0 ((([1#8, 2#8] : List Byte) ++ (seg b1 0 (min b1.length 40))).length)).length) cap89_0, true⟩ :: ⟨some b89, 4, 1, fun _ => .int .i64 1, true⟩ :: ⟨some b89, 5, 1, fun _ => .int .i64 2, true⟩ :: ⟨some b89, 6, 1, fun _ => .int .i64 1, true⟩ :: ⟨some b89, 7, 1, fun _ => .slice a89_1 ((seg ((([] : List Byte) ++ (([1#8, 2#8] : List Byte) ++ (seg b1 0 (min b1.length 40)))) ++ ([7#8, 7#8, 7#8] : List Byte)) 0 ((([1#8, 2#8] : List Byte) ++ (seg b1 0 (min b1.length 40))).length)).length) cap89_1, true⟩ :: ⟨some b89, 8, 1, fun _ => .int .i64 2, true⟩ :: ⟨some b89, 9, 1, fun _ => .int .i64 1, true⟩ :: ⟨some b89, 10, 1, fun _ => .int .i64 2, true⟩ :: ⟨some b89, 11, 1, fun _ => .slice a89_2 ((seg ((([] : List Byte) ++ (([1#8, 2#8] : List Byte) ++ (seg b1 0 (min b1.length 40)))) ++ ([7#8, 7#8, 7#8] : List Byte)) 0 ((([1#8, 2#8] : List Byte) ++ (seg b1 0 (min b1.length 40))).length)).length) cap89_2, true⟩ :: ⟨pb89_0, 0, cap89_0, fun q => VU .u8 (F89_0 q), true⟩ :: ⟨pb89_1, 0, cap89_1, fun q => VU .u8 (F89_1 q), true⟩ :: ⟨pb89_2, 0, cap89_2, fun q => VU .u8 (F89_2 q), true⟩ :: ⟨pb37, 0, cap37, fun q => VU .u8 (F37 q), true⟩ :: ⟨pb33, 0, cap33, fun q => VU .u8 (F33 q), true⟩ :: ⟨pb27, 0, cap27, fun q => VU .u8 (F27 q), true⟩ :: L) w ∧ Ow ab199 pb199 ((([1#8, 2#8] : List Byte) ++ (seg b1 0 (min b1.length 40))).length) cb199 Fb199 s204.1 ∧ Ow am201 pm201 ((seg ((([] : List Byte) ++ (([1#8, 2#8] : List Byte) ++ (seg b1 0 (min b1.length 40)))) ++ ([7#8, 7#8, 7#8] : List Byte)) 0 ((([1#8, 2#8] : List Byte) ++ (seg b1 0 (min b1.length 40))).length)).length) cm201 Fm201 s204.2.2) ⟨ab163, pb163, cb163, Fb163, a93_2, pb93_2, cap93_2, F93_2, (zer (zer (zer (zer (zer (zer (zer zen))))))), h205, hb163, ho93_2⟩ ?_
      rintro ⟨b199, i_200, m201⟩ o204 hR hx204 ev206 wl206 ⟨ab199, pb199, cb199, Fb199, am201, pm201, cm201, Fm201, he206, h206, hb199, hm201⟩
      obtain ⟨ev206, rfl⟩ := he206.open
      unfold lethelaw23_NetHands_l3 at hR
      refine W.seq_k fun _ k207 => W.seq_k fun _ k208 => ?_
      refine W.regionT [(0, true), (1, true), (2, true), (3, true), (4, true), (5, true), (6, true), (7, true)] (by kernel_rfl) ?_
      refine Plan.move_int rfl rfl <| Plan.move_slice rfl rfl <| Plan.move_int rfl rfl <| Plan.idxSlO (j := 2) (o' := 8) FNetHands.sl57 rfl rfl rfl (by omega) rfl <| Plan.fieldAddr 3 FNetHands.fld60_3 rfl rfl <| Plan.load0 h206 15 rfl rfl rfl (by omega) FNetHands.sc23 <| Plan.len FNetHands.isl23 rfl rfl <| Plan.cmpP (a := (((i_200 : Nat) : Int) : Int)) (b := ((((seg ((([] : List Byte) ++ (([1#8, 2#8] : List Byte) ++ (seg b1 0 (min b1.length 40)))) ++ ([7#8, 7#8, 7#8] : List Byte)) 0 ((([1#8, 2#8] : List Byte) ++ (seg b1 0 (min b1.length 40))).length)).length : Nat) : Int) : Int)) (p := i_200 < (seg ((([] : List Byte) ++ (([1#8, 2#8] : List Byte) ++ (seg b1 0 (min b1.length 40)))) ++ ([7#8, 7#8, 7#8] : List Byte)) 0 ((([1#8, 2#8] : List Byte) ++ (seg b1 0 (min b1.length 40))).length)).length) rfl rfl rfl rfl icmp_ltN ?_
      refine Plan.nil (k208 _ _ ?_); clear k208
      by_cases hc209 : i_200 < (seg ((([] : List Byte) ++ (([1#8, 2#8] : List Byte) ++ (seg b1 0 (min b1.length 40)))) ++ ([7#8, 7#8, 7#8] : List Byte)) 0 ((([1#8, 2#8] : List Byte) ++ (seg b1 0 (min b1.length 40))).length)).length
      ·
       replace hR := ifT hR hc209
       refine W.condT (congrArg Value.bool (decide_eq_true hc209)) ?_
       refine W.skip ?_
       refine k207 _ _ ?_; clear k207
       refine W.seq_k fun _ k210 => ?_
       refine W.block ?_
       refine W.regionT [(0, true), (1, true), (2, true), (3, true), (4, true), (5, true), (6, true), (7, true), (8, true), (9, true), (10, true), (11, false)] (by kernel_rfl) ?_
       refine Plan.move_slice rfl rfl <| Plan.move_int rfl rfl <| Plan.idxSlO (j := 2) (o' := 8) FNetHands.sl57 rfl rfl rfl (by omega) rfl <| Plan.fieldAddr 3 FNetHands.fld60_3 rfl rfl <| Plan.load0 h206 15 rfl rfl rfl (by omega) FNetHands.sc23 <| Plan.move_int rfl rfl <| Plan.move_int rfl rfl <| Plan.move_int rfl rfl ?_
       refine Plan.addW (a := mark2) (b := 2) rfl rfl rfl <| Plan.convIU .u8 (a := (w64 (mark2 + 2))) FNetHands.u5 FNetHands.some3 rfl rfl ?_
       obtain ⟨hc211, hR⟩ := hR
       refine Plan.idxVS (j := i_200) h206 (hm201.bx 1 rfl) FNetHands.sl23 rfl rfl rfl hc211 ?_
       refine Plan.storeO (j := i_200) (Y := (BitVec.ofInt 8 (w64 (mark2 + 2)))) h206 1 hm201 rfl rfl rfl rfl hc211 FNetHands.sz5 rfl fun w212 F212 ho212 h212 => ?_
       simp only [zca, zna, zsz, zss] at h212
       have e212 : (m201.set i_200 (BitVec.ofInt 8 (w64 (mark2 + 2)))).length = m201.length := List.length_set
       refine Plan.nil ?_
       refine blockR_norm ?_
       refine k210 _ _ ?_; clear k210
       refine W.regionT [(0, true), (1, true), (2, true)] (by kernel_rfl) ?_
       refine Plan.move_int rfl rfl ?_
       obtain ⟨hc213, hR⟩ := hR
       refine Plan.addN (a := i_200) (b := 1) rfl rfl rfl (by omega) <| Plan.assign_int rfl rfl <| Plan.nil ?_
       exact iterR_norm ⟨_, hR, ab199, pb199, cb199, Fb199, am201, pm201, cm201, F212, (zer (zer (zer (zer (zer (zer (zer zen))))))), h212, hb199, (show Ow _ _ ((seg ((([] : List Byte) ++ (([1#8, 2#8] : List Byte) ++ (seg b1 0 (min b1.length 40)))) ++ ([7#8, 7#8, 7#8] : List Byte)) 0 ((([1#8, 2#8] : List Byte) ++ (seg b1 0 (min b1.length 40))).length)).length) _ _ _ from ho212)⟩
      ·
       replace hR := ifF hR hc209
       refine W.condF (congrArg Value.bool (decide_eq_false hc209)) ?_
       refine W.exit (thenR_exit (iterR_exit (blockR_here ?_)))
       exact ⟨b199, m201, (hx204 _ hR).symm, ab199, pb199, cb199, Fb199, am201, pm201, cm201, Fm201, (zer (zer (zer (zer (zer (zer zen)))))), h206, hb199, hm201⟩
     ·
      rintro ev214 wl214 ⟨y_b202, y_m203, hy214, ab202, pb202, cb202, Fb202, am203, pm203, cm203, Fm203, he214, h214, hb202, hm203⟩
      obtain ⟨ev214, rfl⟩ := he214.open
      cases hy214
      replace hR := hR0204
      refine k180 _ _ ?_; clear k180
      refine W.regionT [(0, true), (1, true), (2, true), (3, true), (4, true), (5, false)] (by kernel_rfl) ?_
      refine Plan.move_slice rfl rfl <| Plan.move_int rfl rfl <| Plan.move_int rfl rfl <| Plan.idxSlO (j := 2) (o' := 8) FNetHands.sl57 rfl rfl rfl (by omega) rfl <| Plan.fieldAddr0 FNetHands.fld60_0 rfl rfl ?_
      refine Plan.storeC_int h214 12 rfl rfl rfl rfl FNetHands.sz3 rfl fun w215 h215 => ?_
      simp only [zca, zna, zsz, zss] at h215
      refine Plan.nil ?_
      refine blockR_norm ?_
      refine k179 _ _ ?_; clear k179
      refine W.regionT [(0, true), (1, true), (2, true)] (by kernel_rfl) ?_
      refine Plan.move_int rfl rfl <| Plan.addN (a := 2) (b := 1) rfl rfl rfl (by omega) <| Plan.assign_int rfl rfl <| Plan.nil ?_
      refine UL.nextT ?_
      refine W.seq_k fun _ k216 => W.seq_k fun _ k217 => ?_
      refine W.regionT [(0, true), (1, true)] (by kernel_rfl) ?_
      refine Plan.move_int rfl rfl <| Plan.cmpP (a := (3 : Int)) (b := (3 : Int)) (p := (3 : Nat) < 3) rfl rfl rfl rfl icmp_ltN <| Plan.nil (k217 _ _ ?_); clear k217
      refine W.condF rfl ?_
      refine W.exit (thenR_exit (thenR_exit (blockR_here ?_)))
      refine k97 _ _ ?_; clear k97
      refine W.seq_k fun _ k218 => W.regionT [(0, true)] (by kernel_rfl) ?_
      refine Plan.assign_slice rfl rfl <| Plan.nil (k218 _ _ ?_); clear k218
      refine W.seq_k fun _ k219 => W.seq_k fun _ k220 => ?_
      refine W.regionT [(0, true)] (by kernel_rfl) ?_
      refine Plan.assign_int rfl rfl <| Plan.nil (k220 _ _ ?_); clear k220
      refine W.block ?_
      refine W.unroll 9 (UL.next ?_)
      refine W.seq_k fun _ k221 => W.seq_k fun _ k222 => ?_
      refine W.regionT [(0, true), (1, true)] (by kernel_rfl) ?_
      refine Plan.move_int rfl rfl <| Plan.cmpP (a := (0 : Int)) (b := (3 : Int)) (p := (0 : Nat) < 3) rfl rfl rfl rfl icmp_ltN <| Plan.nil (k222 _ _ ?_); clear k222
      refine W.condT rfl ?_
      refine W.skip ?_
      refine k221 _ _ ?_; clear k221
      refine W.seq_k fun _ k223 => ?_
      refine W.block ?_
      refine W.regionT [(0, true), (1, true), (2, true), (3, true), (4, true), (5, true), (6, true), (7, true), (8, true), (9, false), (10, false), (11, false), (12, false), (13, true)] (by kernel_rfl) ?_
      refine Plan.move_slice rfl rfl <| Plan.move_slice rfl rfl <| Plan.move_int rfl rfl <| Plan.idxSlO (j := 0) (o' := 0) FNetHands.sl57 rfl rfl rfl (by omega) rfl <| Plan.fieldAddr 3 FNetHands.fld60_3 rfl rfl <| Plan.load0 h215 7 rfl rfl rfl (by omega) FNetHands.sc23 <| Plan.move_int rfl rfl <| Plan.addW (a := mark2) (b := 9) rfl rfl rfl ?_
      refine Plan.convIU .u8 (a := (w64 (mark2 + 9))) FNetHands.u5 FNetHands.some3 rfl rfl ?_
      refine Plan.buildSlice h215 (ps := [(1, fun q => VU .u8 (lit ([(BitVec.ofInt 8 (w64 (mark2 + 9)))] : List Byte) q))]) FNetHands.slu23 FNetHands.sz5 FNetHands.zv5 (by decide) (by decide) rfl rfl rfl (EffO.keep (PIn.cons 7 rfl PIn.nil)) fun b224 w224 hb224 h224 => ?_
      simp only [rngs, List.cons_append, List.nil_append] at h224
      have ho224 : Ow (some ⟨b224, 0, none⟩) (some b224) ([(BitVec.ofInt 8 (w64 (mark2 + 9)))] : List Byte).length 1 (lit ([(BitVec.ofInt 8 (w64 (mark2 + 9)))] : List Byte)) ([(BitVec.ofInt 8 (w64 (mark2 + 9)))] : List Byte) := ⟨.inr ⟨b224, rfl, rfl⟩, Nat.le_refl _, rfl, fun q _ => rfl⟩
      obtain ⟨hc226, hR⟩ := hR
      refine Plan.appendOK (X := m125) (Y := ([(BitVec.ofInt 8 (w64 (mark2 + 9)))] : List Byte)) h224 4 hm125 FNetHands.el23 FNetHands.sl23 rfl rfl rfl rfl (ho224.bx 0 rfl) hc226 (fun _ _ => EffO.wait rfl) fun a225 pb225 cap225 F225 r225 iz225 w225 ho225 hi225 hv225 h225 => ?_
      simp only [zca, zna, zsz, zss] at h225 hv225
      refine Plan.buildLO (D := D23) (sz := 1) h225 [((), ((a225, (m125 ++ ([(BitVec.ofInt 8 (w64 (mark2 + 9)))] : List Byte)).length, cap225) : Option Addr × Nat × Nat))] FNetHands.slu61 FNetHands.sz23 FNetHands.zv23 (by decide) (by decide) rfl rfl rfl rfl (fun _ _ => trivial) (EffO.keep PIn.nil) fun b228 w228 F228 hb228 ho228 h228 => ?_
      replace ho228 : LO D23 [] (some ⟨b228, 0, none⟩) (some b228) ([((a225, (m125 ++ ([(BitVec.ofInt 8 (w64 (mark2 + 9)))] : List Byte)).length, cap225) : Option Addr × Nat × Nat)] : List (Option Addr × Nat × Nat)).length 1 F228 ([((a225, (m125 ++ ([(BitVec.ofInt 8 (w64 (mark2 + 9)))] : List Byte)).length, cap225) : Option Addr × Nat × Nat)] : List (Option Addr × Nat × Nat)) := ho228.re (fun _ _ h => h)
      have h230 : St B (w0.on [mapR kvI D60 [] m5 ([(0, (0, 1, 2, ((a27, (seg ((([] : List Byte) ++ (([1#8, 2#8] : List Byte) ++ (seg b1 0 (min b1.length 40)))) ++ ([7#8, 7#8, 7#8] : List Byte)) 0 ((([1#8, 2#8] : List Byte) ++ (seg b1 0 (min b1.length 40))).length)).length, cap27) : Option Addr × Nat × Nat))), (1, (1, 2, 1, ((a33, (seg ((([] : List Byte) ++ (([1#8, 2#8] : List Byte) ++ (seg b1 0 (min b1.length 40)))) ++ ([7#8, 7#8, 7#8] : List Byte)) 0 ((([1#8, 2#8] : List Byte) ++ (seg b1 0 (min b1.length 40))).length)).length, cap33) : Option Addr × Nat × Nat))), (2, (2, 1, 2, ((a37, (seg ((([] : List Byte) ++ (([1#8, 2#8] : List Byte) ++ (seg b1 0 (min b1.length 40)))) ++ ([7#8, 7#8, 7#8] : List Byte)) 0 ((([1#8, 2#8] : List Byte) ++ (seg b1 0 (min b1.length 40))).length)).length, cap37) : Option Addr × Nat × Nat)))] : List (Int × Int × Int × Int × (Option Addr × Nat × Nat)))]) (⟨none, 0, 0 * 1, fun _ => undef, true⟩ :: _) _ := h228.nilE (fun _ => undef)
      refine Plan.appendLO (D := D23) (X := ([] : List (Option Addr × Nat × Nat))) (Y := ([((a225, (m125 ++ ([(BitVec.ofInt 8 (w64 (mark2 + 9)))] : List Byte)).length, cap225) : Option Addr × Nat × Nat)] : List (Option Addr × Nat × Nat))) (sz := 1) h230 () ((none, 0, 0) : Option Addr × Nat × Nat) 0 LO.nil rfl FNetHands.el61 rfl FNetHands.slu61 rfl rfl rfl rfl (LO.lvf D23_flat ho228 1 rfl) (fun _ _ h => h) (show (0 + 1) * 24 ≤ 140737488355328 ∧ 0 + 1 < 9223372036854775808 by decide).1 (show (0 + 1) * 24 ≤ 140737488355328 ∧ 0 + 1 < 9223372036854775808 by decide).2 (fun _ => EffO.keep PIn.nil) fun a229 pb229 cap229 F229 w229 ho229 h229 => ?_
      simp only [zca, zna, zsz, zss] at h229
      replace ho229 : LO D23 [] a229 pb229 (([] : List (Option Addr × Nat × Nat)) ++ ([((a225, (m125 ++ ([(BitVec.ofInt 8 (w64 (mark2 + 9)))] : List Byte)).length, cap225) : Option Addr × Nat × Nat)] : List (Option Addr × Nat × Nat))).length cap229 F229 (([] : List (Option Addr × Nat × Nat)) ++ ([((a225, (m125 ++ ([(BitVec.ofInt 8 (w64 (mark2 + 9)))] : List Byte)).length, cap225) : Option Addr × Nat × Nat)] : List (Option Addr × Nat × Nat))) := ho229.re (fun _ _ h => h)
      refine Plan.assign_slice rfl rfl <| Plan.nil ?_
      refine blockR_norm ?_
      refine k223 _ _ ?_; clear k223
      refine W.regionT [(0, true), (1, true), (2, true)] (by kernel_rfl) ?_
      refine Plan.move_int rfl rfl <| Plan.addN (a := 0) (b := 1) rfl rfl rfl (by omega) <| Plan.assign_int rfl rfl <| Plan.nil ?_
      refine UL.nextT ?_
      refine W.seq_k fun _ k231 => W.seq_k fun _ k232 => ?_
      refine W.regionT [(0, true), (1, true)] (by kernel_rfl) ?_
      refine Plan.move_int rfl rfl <| Plan.cmpP (a := (1 : Int)) (b := (3 : Int)) (p := (1 : Nat) < 3) rfl rfl rfl rfl icmp_ltN <| Plan.nil (k232 _ _ ?_); clear k232
      refine W.condT rfl ?_
      refine W.skip ?_
      refine k231 _ _ ?_; clear k231
      refine W.seq_k fun _ k233 => ?_
      refine W.block ?_
      refine W.regionT [(0, true), (1, true), (2, true), (3, true), (4, true), (5, true), (6, true), (7, true), (8, true), (9, false), (10, false), (11, false), (12, false), (13, true)] (by kernel_rfl) ?_
      refine Plan.move_slice rfl rfl <| Plan.move_slice rfl rfl <| Plan.move_int rfl rfl <| Plan.idxSlO (j := 1) (o' := 4) FNetHands.sl57 rfl rfl rfl (by omega) rfl <| Plan.fieldAddr 3 FNetHands.fld60_3 rfl rfl <| Plan.load0 h229 15 rfl rfl rfl (by omega) FNetHands.sc23 <| Plan.move_int rfl rfl <| Plan.addW (a := mark2) (b := 9) rfl rfl rfl ?_
      refine Plan.convIU .u8 (a := (w64 (mark2 + 9))) FNetHands.u5 FNetHands.some3 rfl rfl ?_
      refine Plan.buildSlice h229 (ps := [(1, fun q => VU .u8 (lit ([(BitVec.ofInt 8 (w64 (mark2 + 9)))] : List Byte) q))]) FNetHands.slu23 FNetHands.sz5 FNetHands.zv5 (by decide) (by decide) rfl rfl rfl (EffO.keep (PIn.cons 15 rfl PIn.nil)) fun b234 w234 hb234 h234 => ?_
      simp only [rngs, List.cons_append, List.nil_append] at h234
      have ho234 : Ow (some ⟨b234, 0, none⟩) (some b234) ([(BitVec.ofInt 8 (w64 (mark2 + 9)))] : List Byte).length 1 (lit ([(BitVec.ofInt 8 (w64 (mark2 + 9)))] : List Byte)) ([(BitVec.ofInt 8 (w64 (mark2 + 9)))] : List Byte) := ⟨.inr ⟨b234, rfl, rfl⟩, Nat.le_refl _, rfl, fun q _ => rfl⟩
      obtain ⟨hc236, hR⟩ := hR
      refine Plan.appendOK (X := m164) (Y := ([(BitVec.ofInt 8 (w64 (mark2 + 9)))] : List Byte)) h234 7 hm164 FNetHands.el23 FNetHands.sl23 rfl rfl rfl rfl (ho234.bx 0 rfl) hc236 (fun _ _ => EffO.wait rfl) fun a235 pb235 cap235 F235 r235 iz235 w235 ho235 hi235 hv235 h235 => ?_
      simp only [zca, zna, zsz, zss] at h235 hv235
      refine Plan.buildLO (D := D23) (sz := 1) h235 [((), ((a235, (m164 ++ ([(BitVec.ofInt 8 (w64 (mark2 + 9)))] : List Byte)).length, cap235) : Option Addr × Nat × Nat))] FNetHands.slu61 FNetHands.sz23 FNetHands.zv23 (by decide) (by decide) rfl rfl rfl rfl (fun _ _ => trivial) (EffO.keep PIn.nil) fun b238 w238 F238 hb238 ho238 h238 => ?_
      replace ho238 : LO D23 [] (some ⟨b238, 0, none⟩) (some b238) ([((a235, (m164 ++ ([(BitVec.ofInt 8 (w64 (mark2 + 9)))] : List Byte)).length, cap235) : Option Addr × Nat × Nat)] : List (Option Addr × Nat × Nat)).length 1 F238 ([((a235, (m164 ++ ([(BitVec.ofInt 8 (w64 (mark2 + 9)))] : List Byte)).length, cap235) : Option Addr × Nat × Nat)] : List (Option Addr × Nat × Nat)) := ho238.re (fun _ _ h => h)
      refine Plan.appendLO (D := D23) (X := (([] : List (Option Addr × Nat × Nat)) ++ ([((a225, (m125 ++ ([(BitVec.ofInt 8 (w64 (mark2 + 9)))] : List Byte)).length, cap225) : Option Addr × Nat × Nat)] : List (Option Addr × Nat × Nat)))) (Y := ([((a235, (m164 ++ ([(BitVec.ofInt 8 (w64 (mark2 + 9)))] : List Byte)).length, cap235) : Option Addr × Nat × Nat)] : List (Option Addr × Nat × Nat))) (sz := 1) h238 () ((none, 0, 0) : Option Addr × Nat × Nat) 3 ho229 rfl FNetHands.el61 rfl FNetHands.slu61 rfl rfl rfl rfl (LO.lvf D23_flat ho238 0 rfl) (fun _ _ h => h) (show (1 + 1) * 24 ≤ 140737488355328 ∧ 1 + 1 < 9223372036854775808 by decide).1 (show (1 + 1) * 24 ≤ 140737488355328 ∧ 1 + 1 < 9223372036854775808 by decide).2 (fun _ => EffO.keep PIn.nil) fun a239 pb239 cap239 F239 w239 ho239 h239 => ?_
      simp only [zca, zna, zsz, zss] at h239
      replace ho239 : LO D23 [] a239 pb239 ((([] : List (Option Addr × Nat × Nat)) ++ ([((a225, (m125 ++ ([(BitVec.ofInt 8 (w64 (mark2 + 9)))] : List Byte)).length, cap225) : Option Addr × Nat × Nat)] : List (Option Addr × Nat × Nat))) ++ ([((a235, (m164 ++ ([(BitVec.ofInt 8 (w64 (mark2 + 9)))] : List Byte)).length, cap235) : Option Addr × Nat × Nat)] : List (Option Addr × Nat × Nat))).length cap239 F239 ((([] : List (Option Addr × Nat × Nat)) ++ ([((a225, (m125 ++ ([(BitVec.ofInt 8 (w64 (mark2 + 9)))] : List Byte)).length, cap225) : Option Addr × Nat × Nat)] : List (Option Addr × Nat × Nat))) ++ ([((a235, (m164 ++ ([(BitVec.ofInt 8 (w64 (mark2 + 9)))] : List Byte)).length, cap235) : Option Addr × Nat × Nat)] : List (Option Addr × Nat × Nat))) := ho239.re (fun _ _ h => h)
      refine Plan.assign_slice rfl rfl <| Plan.nil ?_
      refine blockR_norm ?_
      refine k233 _ _ ?_; clear k233
      refine W.regionT [(0, true), (1, true), (2, true)] (by kernel_rfl) ?_
      refine Plan.move_int rfl rfl <| Plan.addN (a := 1) (b := 1) rfl rfl rfl (by omega) <| Plan.assign_int rfl rfl <| Plan.nil ?_
      refine UL.nextT ?_
      refine W.seq_k fun _ k240 => W.seq_k fun _ k241 => ?_
      refine W.regionT [(0, true), (1, true)] (by kernel_rfl) ?_
      refine Plan.move_int rfl rfl <| Plan.cmpP (a := (2 : Int)) (b := (3 : Int)) (p := (2 : Nat) < 3) rfl rfl rfl rfl icmp_ltN <| Plan.nil (k241 _ _ ?_); clear k241
      refine W.condT rfl ?_
      refine W.skip ?_
      refine k240 _ _ ?_; clear k240
      refine W.seq_k fun _ k242 => ?_
      refine W.block ?_
      refine W.regionT [(0, true), (1, true), (2, true), (3, true), (4, true), (5, true), (6, true), (7, true), (8, true), (9, false), (10, false), (11, false), (12, false), (13, true)] (by kernel_rfl) ?_
      refine Plan.move_slice rfl rfl <| Plan.move_slice rfl rfl <| Plan.move_int rfl rfl <| Plan.idxSlO (j := 2) (o' := 8) FNetHands.sl57 rfl rfl rfl (by omega) rfl <| Plan.fieldAddr 3 FNetHands.fld60_3 rfl rfl <| Plan.load0 h239 22 rfl rfl rfl (by omega) FNetHands.sc23 <| Plan.move_int rfl rfl <| Plan.addW (a := mark2) (b := 9) rfl rfl rfl ?_
      refine Plan.convIU .u8 (a := (w64 (mark2 + 9))) FNetHands.u5 FNetHands.some3 rfl rfl ?_
      refine Plan.buildSlice h239 (ps := [(1, fun q => VU .u8 (lit ([(BitVec.ofInt 8 (w64 (mark2 + 9)))] : List Byte) q))]) FNetHands.slu23 FNetHands.sz5 FNetHands.zv5 (by decide) (by decide) rfl rfl rfl (EffO.keep (PIn.cons 22 rfl PIn.nil)) fun b243 w243 hb243 h243 => ?_
      simp only [rngs, List.cons_append, List.nil_append] at h243
      have ho243 : Ow (some ⟨b243, 0, none⟩) (some b243) ([(BitVec.ofInt 8 (w64 (mark2 + 9)))] : List Byte).length 1 (lit ([(BitVec.ofInt 8 (w64 (mark2 + 9)))] : List Byte)) ([(BitVec.ofInt 8 (w64 (mark2 + 9)))] : List Byte) := ⟨.inr ⟨b243, rfl, rfl⟩, Nat.le_refl _, rfl, fun q _ => rfl⟩
      obtain ⟨hc245, hR⟩ := hR
      refine Plan.appendOK (X := m203) (Y := ([(BitVec.ofInt 8 (w64 (mark2 + 9)))] : List Byte)) h243 9 hm203 FNetHands.el23 FNetHands.sl23 rfl rfl rfl rfl (ho243.bx 0 rfl) hc245 (fun _ _ => EffO.wait rfl) fun a244 pb244 cap244 F244 r244 iz244 w244 ho244 hi244 hv244 h244 => ?_
      simp only [zca, zna, zsz, zss] at h244 hv244
      refine Plan.buildLO (D := D23) (sz := 1) h244 [((), ((a244, (m203 ++ ([(BitVec.ofInt 8 (w64 (mark2 + 9)))] : List Byte)).length, cap244) : Option Addr × Nat × Nat))] FNetHands.slu61 FNetHands.sz23 FNetHands.zv23 (by decide) (by decide) rfl rfl rfl rfl (fun _ _ => trivial) (EffO.keep PIn.nil) fun b247 w247 F247 hb247 ho247 h247 => ?_
      replace ho247 : LO D23 [] (some ⟨b247, 0, none⟩) (some b247) ([((a244, (m203 ++ ([(BitVec.ofInt 8 (w64 (mark2 + 9)))] : List Byte)).length, cap244) : Option Addr × Nat × Nat)] : List (Option Addr × Nat × Nat)).length 1 F247 ([((a244, (m203 ++ ([(BitVec.ofInt 8 (w64 (mark2 + 9)))] : List Byte)).length, cap244) : Option Addr × Nat × Nat)] : List (Option Addr × Nat × Nat)) := ho247.re (fun _ _ h => h)
      refine Plan.appendLO (D := D23) (X := ((([] : List (Option Addr × Nat × Nat)) ++ ([((a225, (m125 ++ ([(BitVec.ofInt 8 (w64 (mark2 + 9)))] : List Byte)).length, cap225) : Option Addr × Nat × Nat)] : List (Option Addr × Nat × Nat))) ++ ([((a235, (m164 ++ ([(BitVec.ofInt 8 (w64 (mark2 + 9)))] : List Byte)).length, cap235) : Option Addr × Nat × Nat)] : List (Option Addr × Nat × Nat)))) (Y := ([((a244, (m203 ++ ([(BitVec.ofInt 8 (w64 (mark2 + 9)))] : List Byte)).length, cap244) : Option Addr × Nat × Nat)] : List (Option Addr × Nat × Nat))) (sz := 1) h247 () ((none, 0, 0) : Option Addr × Nat × Nat) 6 ho239 rfl FNetHands.el61 rfl FNetHands.slu61 rfl rfl rfl rfl (LO.lvf D23_flat ho247 0 rfl) (fun _ _ h => h) (show (2 + 1) * 24 ≤ 140737488355328 ∧ 2 + 1 < 9223372036854775808 by decide).1 (show (2 + 1) * 24 ≤ 140737488355328 ∧ 2 + 1 < 9223372036854775808 by decide).2 (fun _ => EffO.keep PIn.nil) fun a248 pb248 cap248 F248 w248 ho248 h248 => ?_
      simp only [zca, zna, zsz, zss] at h248
      replace ho248 : LO D23 [] a248 pb248 (((([] : List (Option Addr × Nat × Nat)) ++ ([((a225, (m125 ++ ([(BitVec.ofInt 8 (w64 (mark2 + 9)))] : List Byte)).length, cap225) : Option Addr × Nat × Nat)] : List (Option Addr × Nat × Nat))) ++ ([((a235, (m164 ++ ([(BitVec.ofInt 8 (w64 (mark2 + 9)))] : List Byte)).length, cap235) : Option Addr × Nat × Nat)] : List (Option Addr × Nat × Nat))) ++ ([((a244, (m203 ++ ([(BitVec.ofInt 8 (w64 (mark2 + 9)))] : List Byte)).length, cap244) : Option Addr × Nat × Nat)] : List (Option Addr × Nat × Nat))).length cap248 F248 (((([] : List (Option Addr × Nat × Nat)) ++ ([((a225, (m125 ++ ([(BitVec.ofInt 8 (w64 (mark2 + 9)))] : List Byte)).length, cap225) : Option Addr × Nat × Nat)] : List (Option Addr × Nat × Nat))) ++ ([((a235, (m164 ++ ([(BitVec.ofInt 8 (w64 (mark2 + 9)))] : List Byte)).length, cap235) : Option Addr × Nat × Nat)] : List (Option Addr × Nat × Nat))) ++ ([((a244, (m203 ++ ([(BitVec.ofInt 8 (w64 (mark2 + 9)))] : List Byte)).length, cap244) : Option Addr × Nat × Nat)] : List (Option Addr × Nat × Nat))) := ho248.re (fun _ _ h => h)
      refine Plan.assign_slice rfl rfl <| Plan.nil ?_
      refine blockR_norm ?_
      refine k242 _ _ ?_; clear k242
      refine W.regionT [(0, true), (1, true), (2, true)] (by kernel_rfl) ?_
      refine Plan.move_int rfl rfl <| Plan.addN (a := 2) (b := 1) rfl rfl rfl (by omega) <| Plan.assign_int rfl rfl <| Plan.nil ?_
      refine UL.nextT ?_
      refine W.seq_k fun _ k249 => W.seq_k fun _ k250 => ?_
      refine W.regionT [(0, true), (1, true)] (by kernel_rfl) ?_
      refine Plan.move_int rfl rfl <| Plan.cmpP (a := (3 : Int)) (b := (3 : Int)) (p := (3 : Nat) < 3) rfl rfl rfl rfl icmp_ltN <| Plan.nil (k250 _ _ ?_); clear k250
      refine W.condF rfl ?_
      refine W.exit (thenR_exit (thenR_exit (blockR_here ?_)))
      refine k219 _ _ ?_; clear k219
      refine W.seq_k fun _ k251 => W.seq_k fun _ k252 => ?_
      refine W.regionT [(0, true), (1, true), (2, false), (3, true)] (by kernel_rfl) ?_
      refine Plan.move_slice rfl rfl <| Plan.move_slice rfl rfl ?_
      obtain ⟨b267, hX266, hR0266⟩ := hR
      refine Plan.call (vs := [.slice (some ⟨b89, 0, none⟩) 3 cap89, .slice ab202 ((([1#8, 2#8] : List Byte) ++ (seg b1 0 (min b1.length 40))).length) cb202]) (R := fun e w => ∃ y_b267 : Bool, (b267 = y_b267) ∧ e = .returned (.bool y_b267) ∧ St B (w0.on [mapR kvI D60 [] m5 ([(0, (0, 1, 2, ((a27, (seg ((([] : List Byte) ++ (([1#8, 2#8] : List Byte) ++ (seg b1 0 (min b1.length 40)))) ++ ([7#8, 7#8, 7#8] : List Byte)) 0 ((([1#8, 2#8] : List Byte) ++ (seg b1 0 (min b1.length 40))).length)).length, cap27) : Option Addr × Nat × Nat))), (1, (1, 2, 1, ((a33, (seg ((([] : List Byte) ++ (([1#8, 2#8] : List Byte) ++ (seg b1 0 (min b1.length 40)))) ++ ([7#8, 7#8, 7#8] : List Byte)) 0 ((([1#8, 2#8] : List Byte) ++ (seg b1 0 (min b1.length 40))).length)).length, cap33) : Option Addr × Nat × Nat))), (2, (2, 1, 2, ((a37, (seg ((([] : List Byte) ++ (([1#8, 2#8] : List Byte) ++ (seg b1 0 (min b1.length 40)))) ++ ([7#8, 7#8, 7#8] : List Byte)) 0 ((([1#8, 2#8] : List Byte) ++ (seg b1 0 (min b1.length 40))).length)).length, cap37) : Option Addr × Nat × Nat)))] : List (Int × Int × Int × Int × (Option Addr × Nat × Nat)))]) (⟨pb244, 0, cap244, fun q => VU .u8 (F244 q), true⟩ :: ⟨pb235, 0, cap235, fun q => VU .u8 (F235 q), true⟩ :: ⟨pb248, 0, cap248 * 1, F248, true⟩ :: ⟨pb225, 0, cap225, fun q => VU .u8 (F225 q), true⟩ :: ⟨pb202, 0, cb202, fun q => VU .u8 (Fb202 q), true⟩ :: r244 :: r235 :: r225 :: ⟨some b93, 0, 1, fun _ => .int .i64 mark2, true⟩ :: ⟨some b93, 1, 1, fun _ => .int .i64 1, true⟩ :: ⟨some b93, 2, 1, fun _ => .int .i64 2, true⟩ :: ⟨some b93, 3, 1, fun _ => .slice am125 ((seg ((([] : List Byte) ++ (([1#8, 2#8] : List Byte) ++ (seg b1 0 (min b1.length 40)))) ++ ([7#8, 7#8, 7#8] : List Byte)) 0 ((([1#8, 2#8] : List Byte) ++ (seg b1 0 (min b1.length 40))).length)).length) cm125, true⟩ :: ⟨some b93, 4, 1, fun _ => .int .i64 mark2, true⟩ :: ⟨some b93, 5, 1, fun _ => .int .i64 2, true⟩ :: ⟨some b93, 6, 1, fun _ => .int .i64 1, true⟩ :: ⟨some b93, 7, 1, fun _ => .slice am164 ((seg ((([] : List Byte) ++ (([1#8, 2#8] : List Byte) ++ (seg b1 0 (min b1.length 40)))) ++ ([7#8, 7#8, 7#8] : List Byte)) 0 ((([1#8, 2#8] : List Byte) ++ (seg b1 0 (min b1.length 40))).length)).length) cm164, true⟩ :: ⟨some b93, 8, 1, fun _ => .int .i64 mark2, true⟩ :: ⟨some b93, 9, 1, fun _ => .int .i64 1, true⟩ :: ⟨some b93, 10, 1, fun _ => .int .i64 2, true⟩ :: ⟨some b93, 11, 1, fun _ => .slice am203 ((seg ((([] : List Byte) ++ (([1#8, 2#8] : List Byte) ++ (seg b1 0 (min b1.length 40)))) ++ ([7#8, 7#8, 7#8] : List Byte)) 0 ((([1#8, 2#8] : List Byte) ++ (seg b1 0 (min b1.length 40))).length)).length) cm203, true⟩ :: ⟨some b5, 0, 1, fun _ => .int .i64 2, true⟩ :: ⟨some b5, 1, 1, fun _ => .int .i64 9, true⟩ :: ⟨some b5, 2, 1, fun _ => .map (some m5), true⟩ :: ⟨some b5, 3, 1, fun _ => .int .i64 3, true⟩ :: ⟨some b89, 0, 1, fun _ => .int .i64 0, true⟩ :: ⟨some b89, 1, 1, fun _ => .int .i64 1, true⟩ :: ⟨some b89, 2, 1, fun _ => .int .i64 2, true⟩ :: ⟨some b89, 3, 1, fun _ => .slice a89_0 ((seg ((([] : List Byte) ++ (([1#8, 2#8] : List Byte) ++ (seg b1 0 (min b1.length 40)))) ++ ([7#8, 7#8, 7#8] : List Byte)) 0 ((([1#8, 2#8] : List Byte) ++ (seg b1 0 (min b1.length 40))).length)).length) cap89_0, true⟩ :: ⟨some b89, 4, 1, fun _ => .int .i64 1, true⟩ :: ⟨some b89, 5, 1, fun _ => .int .i64 2, true⟩ :: ⟨some b89, 6, 1, fun _ => .int .i64 1, true⟩ :: ⟨some b89, 7, 1, fun _ => .slice a89_1 ((seg ((([] : List Byte) ++ (([1#8, 2#8] : List Byte) ++ (seg b1 0 (min b1.length 40)))) ++ ([7#8, 7#8, 7#8] : List Byte)) 0 ((([1#8, 2#8] : List Byte) ++ (seg b1 0 (min b1.length 40))).length)).length) cap89_1, true⟩ :: ⟨some b89, 8, 1, fun _ => .int .i64 2, true⟩ :: ⟨some b89, 9, 1, fun _ => .int .i64 1, true⟩ :: ⟨some b89, 10, 1, fun _ => .int .i64 2, true⟩ :: ⟨some b89, 11, 1, fun _ => .slice a89_2 ((seg ((([] : List Byte) ++ (([1#8, 2#8] : List Byte) ++ (seg b1 0 (min b1.length 40)))) ++ ([7#8, 7#8, 7#8] : List Byte)) 0 ((([1#8, 2#8] : List Byte) ++ (seg b1 0 (min b1.length 40))).length)).length) cap89_2, true⟩ :: ⟨pb89_0, 0, cap89_0, fun q => VU .u8 (F89_0 q), true⟩ :: ⟨pb89_1, 0, cap89_1, fun q => VU .u8 (F89_1 q), true⟩ :: ⟨pb89_2, 0, cap89_2, fun q => VU .u8 (F89_2 q), true⟩ :: ⟨pb37, 0, cap37, fun q => VU .u8 (F37 q), true⟩ :: ⟨pb33, 0, cap33, fun q => VU .u8 (F33 q), true⟩ :: ⟨pb27, 0, cap27, fun q => VU .u8 (F27 q), true⟩ :: L) w) rfl FNetHands.call33 rfl ?_ ?_
      ·
       replace hR := hX266
       refine W.enter 32 Try.func33 rfl rfl rfl ?_
       refine W.seq_k fun _ k268 => W.regionT [(0, true)] (by kernel_rfl) ?_
       refine Plan.assign_bool rfl rfl <| Plan.nil (k268 _ _ ?_); clear k268
       refine W.seq_k fun _ k269 => W.regionT [(0, true), (1, true), (2, true), (3, true), (4, true), (5, true), (6, true), (7, true), (8, true), (9, false), (10, true), (11, true), (12, true), (13, true), (14, true), (15, true), (16, true), (17, false), (18, true), (19, true), (20, true), (21, true), (22, true), (23, true), (24, true), (25, false), (26, true), (27, true)] (by kernel_rfl) ?_
       refine Plan.move_slice rfl rfl <| Plan.len FNetHands.isl57 rfl rfl <| Plan.cmpP (a := (3 : Int)) (b := (3 : Int)) (p := (3 : Nat) = 3) rfl rfl rfl rfl icmp_eqN <| Plan.move_bool rfl rfl <| Plan.move_slice rfl rfl <| Plan.idxSlO (j := 0) (o' := 0) FNetHands.sl57 rfl rfl rfl (by omega) rfl <| Plan.loadA h248 rfl rfl (.cons 30 rfl (.cons 31 rfl (.cons 32 rfl (.cons 33 rfl .nil)))) FNetHands.agg60 <| Plan.move_slice rfl rfl ?_
       refine Plan.buildP (ps := [(1, fun _ => VN 0), (1, fun _ => VN 1), (1, fun _ => VN 2), (1, fun _ => .slice ab202 ((([1#8, 2#8] : List Byte) ++ (seg b1 0 (min b1.length 40))).length) cb202)]) FNetHands.pl60 (by decide) FNetHands.z60 rfl rfl (.one [] [(1, fun _ => VN 0), (1, fun _ => VN 0), (1, fun _ => .slice none 0 0)] (fun _ => VN 0) rfl rfl (.one [(1, fun _ => VN 0)] [(1, fun _ => VN 0), (1, fun _ => .slice none 0 0)] (fun _ => VN 0) rfl rfl (.one [(1, fun _ => VN 0), (1, fun _ => VN 1)] [(1, fun _ => .slice none 0 0)] (fun _ => VN 0) rfl rfl (.one [(1, fun _ => VN 0), (1, fun _ => VN 1), (1, fun _ => VN 2)] [] (fun _ => .slice none 0 0) rfl rfl .nil)))) ?_
       obtain ⟨x_271, hr270, hR⟩ := hR
       refine Plan.call (vs := [AG [(1, fun _ => .int .i64 0), (1, fun _ => .int .i64 1), (1, fun _ => .int .i64 2), (1, fun _ => .slice a89_0 ((seg ((([] : List Byte) ++ (([1#8, 2#8] : List Byte) ++ (seg b1 0 (min b1.length 40)))) ++ ([7#8, 7#8, 7#8] : List Byte)) 0 ((([1#8, 2#8] : List Byte) ++ (seg b1 0 (min b1.length 40))).length)).length) cap89_0)], AG [(1, fun _ => VN 0), (1, fun _ => VN 1), (1, fun _ => VN 2), (1, fun _ => .slice ab202 ((([1#8, 2#8] : List Byte) ++ (seg b1 0 (min b1.length 40))).length) cb202)]]) rfl FNetHands.call69 rfl (lethelaw23_same_ok (by exact (ho89_0.bx 42 rfl)) (by exact (hb202.bx 10 rfl)) hr270 h248) ?_
       rintro _ w272 ⟨rfl, h272⟩
       refine ⟨_, rfl, .inr ⟨rfl, ?_⟩⟩
       by_cases hc273 : x_271 = true
       ·
        replace hR := ifT hR hc273
        obtain rfl : x_271 = true := hc273
        refine Plan.pickTb rfl rfl rfl <| Plan.move_bool rfl rfl <| Plan.move_slice rfl rfl <| Plan.idxSlO (j := 1) (o' := 4) FNetHands.sl57 rfl rfl rfl (by omega) rfl <| Plan.loadA h272 rfl rfl (.cons 34 rfl (.cons 35 rfl (.cons 36 rfl (.cons 37 rfl .nil)))) FNetHands.agg60 <| Plan.move_slice rfl rfl ?_
        refine Plan.buildP (ps := [(1, fun _ => VN 1), (1, fun _ => VN 2), (1, fun _ => VN 1), (1, fun _ => .slice ab202 ((([1#8, 2#8] : List Byte) ++ (seg b1 0 (min b1.length 40))).length) cb202)]) FNetHands.pl60 (by decide) FNetHands.z60 rfl rfl (.one [] [(1, fun _ => VN 0), (1, fun _ => VN 0), (1, fun _ => .slice none 0 0)] (fun _ => VN 0) rfl rfl (.one [(1, fun _ => VN 1)] [(1, fun _ => VN 0), (1, fun _ => .slice none 0 0)] (fun _ => VN 0) rfl rfl (.one [(1, fun _ => VN 1), (1, fun _ => VN 2)] [(1, fun _ => .slice none 0 0)] (fun _ => VN 0) rfl rfl (.one [(1, fun _ => VN 1), (1, fun _ => VN 2), (1, fun _ => VN 1)] [] (fun _ => .slice none 0 0) rfl rfl .nil)))) ?_
        obtain ⟨x_275, hr274, hR⟩ := hR
        refine Plan.call (vs := [AG [(1, fun _ => .int .i64 1), (1, fun _ => .int .i64 2), (1, fun _ => .int .i64 1), (1, fun _ => .slice a89_1 ((seg ((([] : List Byte) ++ (([1#8, 2#8] : List Byte) ++ (seg b1 0 (min b1.length 40)))) ++ ([7#8, 7#8, 7#8] : List Byte)) 0 ((([1#8, 2#8] : List Byte) ++ (seg b1 0 (min b1.length 40))).length)).length) cap89_1)], AG [(1, fun _ => VN 1), (1, fun _ => VN 2), (1, fun _ => VN 1), (1, fun _ => .slice ab202 ((([1#8, 2#8] : List Byte) ++ (seg b1 0 (min b1.length 40))).length) cb202)]]) rfl FNetHands.call69 rfl (lethelaw23_same_ok (by exact (ho89_1.bx 43 rfl)) (by exact (hb202.bx 10 rfl)) hr274 h272) ?_
        rintro _ w276 ⟨rfl, h276⟩
        refine ⟨_, rfl, .inr ⟨rfl, ?_⟩⟩
        by_cases hc277 : x_275 = true
        ·
         replace hR := ifT hR hc277
         obtain rfl : x_275 = true := hc277
         refine Plan.pickTb rfl rfl rfl <| Plan.move_bool rfl rfl <| Plan.move_slice rfl rfl <| Plan.idxSlO (j := 2) (o' := 8) FNetHands.sl57 rfl rfl rfl (by omega) rfl <| Plan.loadA h276 rfl rfl (.cons 38 rfl (.cons 39 rfl (.cons 40 rfl (.cons 41 rfl .nil)))) FNetHands.agg60 <| Plan.move_slice rfl rfl ?_
         refine Plan.buildP (ps := [(1, fun _ => VN 2), (1, fun _ => VN 1), (1, fun _ => VN 2), (1, fun _ => .slice ab202 ((([1#8, 2#8] : List Byte) ++ (seg b1 0 (min b1.length 40))).length) cb202)]) FNetHands.pl60 (by decide) FNetHands.z60 rfl rfl (.one [] [(1, fun _ => VN 0), (1, fun _ => VN 0), (1, fun _ => .slice none 0 0)] (fun _ => VN 0) rfl rfl (.one [(1, fun _ => VN 2)] [(1, fun _ => VN 0), (1, fun _ => .slice none 0 0)] (fun _ => VN 0) rfl rfl (.one [(1, fun _ => VN 2), (1, fun _ => VN 1)] [(1, fun _ => .slice none 0 0)] (fun _ => VN 0) rfl rfl (.one [(1, fun _ => VN 2), (1, fun _ => VN 1), (1, fun _ => VN 2)] [] (fun _ => .slice none 0 0) rfl rfl .nil)))) ?_
         obtain ⟨x_279, hr278, hR⟩ := hR
         refine Plan.call (vs := [AG [(1, fun _ => .int .i64 2), (1, fun _ => .int .i64 1), (1, fun _ => .int .i64 2), (1, fun _ => .slice a89_2 ((seg ((([] : List Byte) ++ (([1#8, 2#8] : List Byte) ++ (seg b1 0 (min b1.length 40)))) ++ ([7#8, 7#8, 7#8] : List Byte)) 0 ((([1#8, 2#8] : List Byte) ++ (seg b1 0 (min b1.length 40))).length)).length) cap89_2)], AG [(1, fun _ => VN 2), (1, fun _ => VN 1), (1, fun _ => VN 2), (1, fun _ => .slice ab202 ((([1#8, 2#8] : List Byte) ++ (seg b1 0 (min b1.length 40))).length) cb202)]]) rfl FNetHands.call69 rfl (lethelaw23_same_ok (by exact (ho89_2.bx 44 rfl)) (by exact (hb202.bx 10 rfl)) hr278 h276) ?_
         rintro _ w280 ⟨rfl, h280⟩
         refine ⟨_, rfl, .inr ⟨rfl, ?_⟩⟩
         refine Plan.pickTb rfl rfl rfl <| Plan.assign_bool rfl rfl <| Plan.nil (k269 _ _ ?_); clear k269
         refine W.ret (finR_ret ?_)
         have h281 := St.pickT (C := [_, _, _, _, _, _, _, _, _, _, _, _, _, _, _, _, _, _, _, _, _, _, _, _, _, _, _, _, _, _, _, _, _, _, _, _, _, _, _, _, _, _, _, _, _, _, _, _]) h280 [1, 4, 6, 8, 10, 11, 12, 13, 14, 15, 16, 17, 18, 19, 20, 21, 22, 23, 24, 25, 26, 27, 28, 29, 30, 31, 32, 33, 34, 35, 36, 37, 38, 39, 40, 41, 42, 43, 44, 45, 46, 47] (by decide)
         simp only [pick, zfc, zfn, zgz, zgs, zca, zna] at h281
         refine RetOk.mk (.tmp_bool rfl .nil) ?_
         exact ⟨x_279, hR, rfl, h281⟩
        ·
         replace hR := ifF hR hc277
         obtain rfl : x_275 = false := Bool.eq_false_iff.2 hc277
         refine Plan.pickTb rfl rfl rfl <| Plan.move_bool rfl rfl <| Plan.passed rfl <| Plan.passed rfl <| Plan.passed rfl <| Plan.passed rfl <| Plan.passed rfl <| Plan.passed rfl ?_
         refine Plan.pickFb rfl rfl rfl <| Plan.assign_bool rfl rfl <| Plan.nil (k269 _ _ ?_); clear k269
         refine W.ret (finR_ret ?_)
         have h282 := St.pickT (C := [_, _, _, _, _, _, _, _, _, _, _, _, _, _, _, _, _, _, _, _, _, _, _, _, _, _, _, _, _, _, _, _, _, _, _, _, _, _, _, _, _, _, _, _, _, _, _, _]) h276 [1, 4, 6, 8, 10, 11, 12, 13, 14, 15, 16, 17, 18, 19, 20, 21, 22, 23, 24, 25, 26, 27, 28, 29, 30, 31, 32, 33, 34, 35, 36, 37, 38, 39, 40, 41, 42, 43, 44, 45, 46, 47] (by decide)
         simp only [pick, zfc, zfn, zgz, zgs, zca, zna] at h282
         refine RetOk.mk (.tmp_bool rfl .nil) ?_
         exact ⟨false, hR, rfl, h282⟩
       ·
        replace hR := ifF hR hc273
        obtain rfl : x_271 = false := Bool.eq_false_iff.2 hc273
        refine Plan.pickTb rfl rfl rfl <| Plan.move_bool rfl rfl <| Plan.passed rfl <| Plan.passed rfl <| Plan.passed rfl <| Plan.passed rfl <| Plan.passed rfl <| Plan.passed rfl ?_
        refine Plan.pickFb rfl rfl rfl <| Plan.move_bool rfl rfl <| Plan.passed rfl <| Plan.passed rfl <| Plan.passed rfl <| Plan.passed rfl <| Plan.passed rfl <| Plan.passed rfl ?_
        refine Plan.pickFb rfl rfl rfl <| Plan.assign_bool rfl rfl <| Plan.nil (k269 _ _ ?_); clear k269
        refine W.ret (finR_ret ?_)
        have h283 := St.pickT (C := [_, _, _, _, _, _, _, _, _, _, _, _, _, _, _, _, _, _, _, _, _, _, _, _, _, _, _, _, _, _, _, _, _, _, _, _, _, _, _, _, _, _, _, _, _, _, _, _]) h272 [1, 4, 6, 8, 10, 11, 12, 13, 14, 15, 16, 17, 18, 19, 20, 21, 22, 23, 24, 25, 26, 27, 28, 29, 30, 31, 32, 33, 34, 35, 36, 37, 38, 39, 40, 41, 42, 43, 44, 45, 46, 47] (by decide)
        simp only [pick, zfc, zfn, zgz, zgs, zca, zna] at h283
        refine RetOk.mk (.tmp_bool rfl .nil) ?_
        exact ⟨false, hR, rfl, h283⟩
      ·
       rintro _ w284 ⟨y_b267, hy284_0, rfl, h284⟩
       subst hy284_0
       replace hR := hR0266
       refine ⟨_, rfl, .inl ⟨PIn.keep (by exact PIn.nil) h284, ?_⟩⟩
       refine Plan.not rfl rfl <| Plan.nil (k252 _ _ ?_); clear k252
       by_cases hc285 : b267 = true
       ·
        replace hR := ifT hR hc285
        refine W.condF (congrArg Value.bool (congrArg Bool.not hc285)) ?_
        refine W.skip ?_
        refine k251 _ _ ?_; clear k251
        refine W.seq_k fun _ k286 => W.regionT [(0, true), (1, false), (2, true)] (by kernel_rfl) ?_
        refine Plan.move_ptr rfl rfl ?_
        have h287 := St.pickT (C := [_, _, _, _, _, _, _, _, _, _, _, _, _, _, _, _, _, _, _, _, _, _, _, _, _, _, _, _, _, _, _, _, _, _, _, _, _, _, _, _, _, _]) h284 [20, 21, 22, 23, 0, 1, 2, 3, 4, 5, 6, 7, 8, 9, 10, 11, 12, 13, 14, 15, 16, 17, 18, 19, 24, 25, 26, 27, 28, 29, 30, 31, 32, 33, 34, 35, 36, 37, 38, 39, 40, 41] (by decide)
        simp only [pick, zfc, zfn, zgz, zgs, zca, zna] at h287
        obtain ⟨hc288, hR⟩ := hR
        refine Plan.call (vs := [.pointer (some ⟨b5, 0, none⟩)]) rfl FNetHands.call32 rfl (net_Hd_Flights (w0 := w0) (b0 := (seg ((([] : List Byte) ++ (([1#8, 2#8] : List Byte) ++ (seg b1 0 (min b1.length 40)))) ++ ([7#8, 7#8, 7#8] : List Byte)) 0 ((([1#8, 2#8] : List Byte) ++ (seg b1 0 (min b1.length 40))).length))) (by exact (ho27.bx 37 rfl)) (b1 := (seg ((([] : List Byte) ++ (([1#8, 2#8] : List Byte) ++ (seg b1 0 (min b1.length 40)))) ++ ([7#8, 7#8, 7#8] : List Byte)) 0 ((([1#8, 2#8] : List Byte) ++ (seg b1 0 (min b1.length 40))).length))) (by exact (ho33.bx 36 rfl)) (b2 := (seg ((([] : List Byte) ++ (([1#8, 2#8] : List Byte) ++ (seg b1 0 (min b1.length 40)))) ++ ([7#8, 7#8, 7#8] : List Byte)) 0 ((([1#8, 2#8] : List Byte) ++ (seg b1 0 (min b1.length 40))).length))) (by exact (ho37.bx 35 rfl)) hc288 hc288 hc288 h287) ?_
        rintro _ w289 ⟨b289, cap289, a289_0, pb289_0, cap289_0, F289_0, a289_1, pb289_1, cap289_1, F289_1, a289_2, pb289_2, cap289_2, F289_2, rfl, h289, ho289_0, ho289_1, ho289_2⟩
        replace h289 : St B (w0.on [mapR kvI D60 [] m5 ([(0, (0, 1, 2, ((a27, (seg ((([] : List Byte) ++ (([1#8, 2#8] : List Byte) ++ (seg b1 0 (min b1.length 40)))) ++ ([7#8, 7#8, 7#8] : List Byte)) 0 ((([1#8, 2#8] : List Byte) ++ (seg b1 0 (min b1.length 40))).length)).length, cap27) : Option Addr × Nat × Nat))), (1, (1, 2, 1, ((a33, (seg ((([] : List Byte) ++ (([1#8, 2#8] : List Byte) ++ (seg b1 0 (min b1.length 40)))) ++ ([7#8, 7#8, 7#8] : List Byte)) 0 ((([1#8, 2#8] : List Byte) ++ (seg b1 0 (min b1.length 40))).length)).length, cap33) : Option Addr × Nat × Nat))), (2, (2, 1, 2, ((a37, (seg ((([] : List Byte) ++ (([1#8, 2#8] : List Byte) ++ (seg b1 0 (min b1.length 40)))) ++ ([7#8, 7#8, 7#8] : List Byte)) 0 ((([1#8, 2#8] : List Byte) ++ (seg b1 0 (min b1.length 40))).length)).length, cap37) : Option Addr × Nat × Nat)))] : List (Int × Int × Int × Int × (Option Addr × Nat × Nat)))]) (⟨some b289, 0, 1, fun _ => .int .i64 0, true⟩ :: ⟨some b289, 1, 1, fun _ => .int .i64 1, true⟩ :: ⟨some b289, 2, 1, fun _ => .int .i64 2, true⟩ :: ⟨some b289, 3, 1, fun _ => .slice a289_0 ((seg ((([] : List Byte) ++ (([1#8, 2#8] : List Byte) ++ (seg b1 0 (min b1.length 40)))) ++ ([7#8, 7#8, 7#8] : List Byte)) 0 ((([1#8, 2#8] : List Byte) ++ (seg b1 0 (min b1.length 40))).length)).length) cap289_0, true⟩ :: ⟨some b289, 4, 1, fun _ => .int .i64 1, true⟩ :: ⟨some b289, 5, 1, fun _ => .int .i64 2, true⟩ :: ⟨some b289, 6, 1, fun _ => .int .i64 1, true⟩ :: ⟨some b289, 7, 1, fun _ => .slice a289_1 ((seg ((([] : List Byte) ++ (([1#8, 2#8] : List Byte) ++ (seg b1 0 (min b1.length 40)))) ++ ([7#8, 7#8, 7#8] : List Byte)) 0 ((([1#8, 2#8] : List Byte) ++ (seg b1 0 (min b1.length 40))).length)).length) cap289_1, true⟩ :: ⟨some b289, 8, 1, fun _ => .int .i64 2, true⟩ :: ⟨some b289, 9, 1, fun _ => .int .i64 1, true⟩ :: ⟨some b289, 10, 1, fun _ => .int .i64 2, true⟩ :: ⟨some b289, 11, 1, fun _ => .slice a289_2 ((seg ((([] : List Byte) ++ (([1#8, 2#8] : List Byte) ++ (seg b1 0 (min b1.length 40)))) ++ ([7#8, 7#8, 7#8] : List Byte)) 0 ((([1#8, 2#8] : List Byte) ++ (seg b1 0 (min b1.length 40))).length)).length) cap289_2, true⟩ :: ⟨pb289_0, 0, cap289_0, fun q => VU .u8 (F289_0 q), true⟩ :: ⟨pb289_1, 0, cap289_1, fun q => VU .u8 (F289_1 q), true⟩ :: ⟨pb289_2, 0, cap289_2, fun q => VU .u8 (F289_2 q), true⟩ :: ⟨some b5, 0, 1, fun _ => .int .i64 2, true⟩ :: ⟨some b5, 1, 1, fun _ => .int .i64 9, true⟩ :: ⟨some b5, 2, 1, fun _ => .map (some m5), true⟩ :: ⟨some b5, 3, 1, fun _ => .int .i64 3, true⟩ :: ⟨pb244, 0, cap244, fun q => VU .u8 (F244 q), true⟩ :: ⟨pb235, 0, cap235, fun q => VU .u8 (F235 q), true⟩ :: ⟨pb248, 0, cap248 * 1, F248, true⟩ :: ⟨pb225, 0, cap225, fun q => VU .u8 (F225 q), true⟩ :: ⟨pb202, 0, cb202, fun q => VU .u8 (Fb202 q), true⟩ :: r244 :: r235 :: r225 :: ⟨some b93, 0, 1, fun _ => .int .i64 mark2, true⟩ :: ⟨some b93, 1, 1, fun _ => .int .i64 1, true⟩ :: ⟨some b93, 2, 1, fun _ => .int .i64 2, true⟩ :: ⟨some b93, 3, 1, fun _ => .slice am125 ((seg ((([] : List Byte) ++ (([1#8, 2#8] : List Byte) ++ (seg b1 0 (min b1.length 40)))) ++ ([7#8, 7#8, 7#8] : List Byte)) 0 ((([1#8, 2#8] : List Byte) ++ (seg b1 0 (min b1.length 40))).length)).length) cm125, true⟩ :: ⟨some b93, 4, 1, fun _ => .int .i64 mark2, true⟩ :: ⟨some b93, 5, 1, fun _ => .int .i64 2, true⟩ :: ⟨some b93, 6, 1, fun _ => .int .i64 1, true⟩ :: ⟨some b93, 7, 1, fun _ => .slice am164 ((seg ((([] : List Byte) ++ (([1#8, 2#8] : List Byte) ++ (seg b1 0 (min b1.length 40)))) ++ ([7#8, 7#8, 7#8] : List Byte)) 0 ((([1#8, 2#8] : List Byte) ++ (seg b1 0 (min b1.length 40))).length)).length) cm164, true⟩ :: ⟨some b93, 8, 1, fun _ => .int .i64 mark2, true⟩ :: ⟨some b93, 9, 1, fun _ => .int .i64 1, true⟩ :: ⟨some b93, 10, 1, fun _ => .int .i64 2, true⟩ :: ⟨some b93, 11, 1, fun _ => .slice am203 ((seg ((([] : List Byte) ++ (([1#8, 2#8] : List Byte) ++ (seg b1 0 (min b1.length 40)))) ++ ([7#8, 7#8, 7#8] : List Byte)) 0 ((([1#8, 2#8] : List Byte) ++ (seg b1 0 (min b1.length 40))).length)).length) cm203, true⟩ :: ⟨some b89, 0, 1, fun _ => .int .i64 0, true⟩ :: ⟨some b89, 1, 1, fun _ => .int .i64 1, true⟩ :: ⟨some b89, 2, 1, fun _ => .int .i64 2, true⟩ :: ⟨some b89, 3, 1, fun _ => .slice a89_0 ((seg ((([] : List Byte) ++ (([1#8, 2#8] : List Byte) ++ (seg b1 0 (min b1.length 40)))) ++ ([7#8, 7#8, 7#8] : List Byte)) 0 ((([1#8, 2#8] : List Byte) ++ (seg b1 0 (min b1.length 40))).length)).length) cap89_0, true⟩ :: ⟨some b89, 4, 1, fun _ => .int .i64 1, true⟩ :: ⟨some b89, 5, 1, fun _ => .int .i64 2, true⟩ :: ⟨some b89, 6, 1, fun _ => .int .i64 1, true⟩ :: ⟨some b89, 7, 1, fun _ => .slice a89_1 ((seg ((([] : List Byte) ++ (([1#8, 2#8] : List Byte) ++ (seg b1 0 (min b1.length 40)))) ++ ([7#8, 7#8, 7#8] : List Byte)) 0 ((([1#8, 2#8] : List Byte) ++ (seg b1 0 (min b1.length 40))).length)).length) cap89_1, true⟩ :: ⟨some b89, 8, 1, fun _ => .int .i64 2, true⟩ :: ⟨some b89, 9, 1, fun _ => .int .i64 1, true⟩ :: ⟨some b89, 10, 1, fun _ => .int .i64 2, true⟩ :: ⟨some b89, 11, 1, fun _ => .slice a89_2 ((seg ((([] : List Byte) ++ (([1#8, 2#8] : List Byte) ++ (seg b1 0 (min b1.length 40)))) ++ ([7#8, 7#8, 7#8] : List Byte)) 0 ((([1#8, 2#8] : List Byte) ++ (seg b1 0 (min b1.length 40))).length)).length) cap89_2, true⟩ :: ⟨pb89_0, 0, cap89_0, fun q => VU .u8 (F89_0 q), true⟩ :: ⟨pb89_1, 0, cap89_1, fun q => VU .u8 (F89_1 q), true⟩ :: ⟨pb89_2, 0, cap89_2, fun q => VU .u8 (F89_2 q), true⟩ :: ⟨pb37, 0, cap37, fun q => VU .u8 (F37 q), true⟩ :: ⟨pb33, 0, cap33, fun q => VU .u8 (F33 q), true⟩ :: ⟨pb27, 0, cap27, fun q => VU .u8 (F27 q), true⟩ :: L) w289 := h289
        refine ⟨_, rfl, .inl ⟨PIn.keep (by exact PIn.nil) h289, ?_⟩⟩
        refine Plan.assign_slice rfl rfl <| Plan.nil (k286 _ _ ?_); clear k286
        refine W.seq_k fun _ k290 => W.regionT [(0, true), (1, false), (2, true), (3, true), (4, true), (5, false), (6, false), (7, true)] (by kernel_rfl) ?_
        refine Plan.move_ptr rfl rfl ?_
        have h291 := St.pickT (C := [_, _, _, _, _, _, _, _, _, _, _, _, _, _, _, _, _, _, _, _, _, _, _, _, _, _, _, _, _, _, _, _, _, _, _, _, _, _, _, _, _, _, _, _, _, _, _, _, _, _, _, _, _, _, _, _, _]) h289 [15, 16, 17, 18, 0, 1, 2, 3, 4, 5, 6, 7, 8, 9, 10, 11, 12, 13, 14, 19, 20, 21, 22, 23, 24, 25, 26, 27, 28, 29, 30, 31, 32, 33, 34, 35, 36, 37, 38, 39, 40, 41, 42, 43, 44, 45, 46, 47, 48, 49, 50, 51, 52, 53, 54, 55, 56] (by decide)
        simp only [pick, zfc, zfn, zgz, zgs, zca, zna] at h291
        refine Plan.call (vs := [.pointer (some ⟨b5, 0, none⟩), VN 0]) rfl FNetHands.call34 rfl (net_Net_Deliver_raw (w0 := w0) (x9 := (0, 1, 2, ((a27, (seg ((([] : List Byte) ++ (([1#8, 2#8] : List Byte) ++ (seg b1 0 (min b1.length 40)))) ++ ([7#8, 7#8, 7#8] : List Byte)) 0 ((([1#8, 2#8] : List Byte) ++ (seg b1 0 (min b1.length 40))).length)).length, cap27) : Option Addr × Nat × Nat))) rfl h291) ?_
        rintro _ w292 ⟨rfl, h292⟩
        replace h292 : St B (w0.on [mapR kvI D60 [] m5 ([(1, (1, 2, 1, ((a33, (seg ((([] : List Byte) ++ (([1#8, 2#8] : List Byte) ++ (seg b1 0 (min b1.length 40)))) ++ ([7#8, 7#8, 7#8] : List Byte)) 0 ((([1#8, 2#8] : List Byte) ++ (seg b1 0 (min b1.length 40))).length)).length, cap33) : Option Addr × Nat × Nat))), (2, (2, 1, 2, ((a37, (seg ((([] : List Byte) ++ (([1#8, 2#8] : List Byte) ++ (seg b1 0 (min b1.length 40)))) ++ ([7#8, 7#8, 7#8] : List Byte)) 0 ((([1#8, 2#8] : List Byte) ++ (seg b1 0 (min b1.length 40))).length)).length, cap37) : Option Addr × Nat × Nat)))] : List (Int × Int × Int × Int × (Option Addr × Nat × Nat)))]) (⟨some b5, 0, 1, fun _ => .int .i64 2, true⟩ :: ⟨some b5, 1, 1, fun _ => .int .i64 9, true⟩ :: ⟨some b5, 2, 1, fun _ => .map (some m5), true⟩ :: ⟨some b5, 3, 1, fun _ => .int .i64 3, true⟩ :: ⟨some b289, 0, 1, fun _ => .int .i64 0, true⟩ :: ⟨some b289, 1, 1, fun _ => .int .i64 1, true⟩ :: ⟨some b289, 2, 1, fun _ => .int .i64 2, true⟩ :: ⟨some b289, 3, 1, fun _ => .slice a289_0 ((seg ((([] : List Byte) ++ (([1#8, 2#8] : List Byte) ++ (seg b1 0 (min b1.length 40)))) ++ ([7#8, 7#8, 7#8] : List Byte)) 0 ((([1#8, 2#8] : List Byte) ++ (seg b1 0 (min b1.length 40))).length)).length) cap289_0, true⟩ :: ⟨some b289, 4, 1, fun _ => .int .i64 1, true⟩ :: ⟨some b289, 5, 1, fun _ => .int .i64 2, true⟩ :: ⟨some b289, 6, 1, fun _ => .int .i64 1, true⟩ :: ⟨some b289, 7, 1, fun _ => .slice a289_1 ((seg ((([] : List Byte) ++ (([1#8, 2#8] : List Byte) ++ (seg b1 0 (min b1.length 40)))) ++ ([7#8, 7#8, 7#8] : List Byte)) 0 ((([1#8, 2#8] : List Byte) ++ (seg b1 0 (min b1.length 40))).length)).length) cap289_1, true⟩ :: ⟨some b289, 8, 1, fun _ => .int .i64 2, true⟩ :: ⟨some b289, 9, 1, fun _ => .int .i64 1, true⟩ :: ⟨some b289, 10, 1, fun _ => .int .i64 2, true⟩ :: ⟨some b289, 11, 1, fun _ => .slice a289_2 ((seg ((([] : List Byte) ++ (([1#8, 2#8] : List Byte) ++ (seg b1 0 (min b1.length 40)))) ++ ([7#8, 7#8, 7#8] : List Byte)) 0 ((([1#8, 2#8] : List Byte) ++ (seg b1 0 (min b1.length 40))).length)).length) cap289_2, true⟩ :: ⟨pb289_0, 0, cap289_0, fun q => VU .u8 (F289_0 q), true⟩ :: ⟨pb289_1, 0, cap289_1, fun q => VU .u8 (F289_1 q), true⟩ :: ⟨pb289_2, 0, cap289_2, fun q => VU .u8 (F289_2 q), true⟩ :: ⟨pb244, 0, cap244, fun q => VU .u8 (F244 q), true⟩ :: ⟨pb235, 0, cap235, fun q => VU .u8 (F235 q), true⟩ :: ⟨pb248, 0, cap248 * 1, F248, true⟩ :: ⟨pb225, 0, cap225, fun q => VU .u8 (F225 q), true⟩ :: ⟨pb202, 0, cb202, fun q => VU .u8 (Fb202 q), true⟩ :: r244 :: r235 :: r225 :: ⟨some b93, 0, 1, fun _ => .int .i64 mark2, true⟩ :: ⟨some b93, 1, 1, fun _ => .int .i64 1, true⟩ :: ⟨some b93, 2, 1, fun _ => .int .i64 2, true⟩ :: ⟨some b93, 3, 1, fun _ => .slice am125 ((seg ((([] : List Byte) ++ (([1#8, 2#8] : List Byte) ++ (seg b1 0 (min b1.length 40)))) ++ ([7#8, 7#8, 7#8] : List Byte)) 0 ((([1#8, 2#8] : List Byte) ++ (seg b1 0 (min b1.length 40))).length)).length) cm125, true⟩ :: ⟨some b93, 4, 1, fun _ => .int .i64 mark2, true⟩ :: ⟨some b93, 5, 1, fun _ => .int .i64 2, true⟩ :: ⟨some b93, 6, 1, fun _ => .int .i64 1, true⟩ :: ⟨some b93, 7, 1, fun _ => .slice am164 ((seg ((([] : List Byte) ++ (([1#8, 2#8] : List Byte) ++ (seg b1 0 (min b1.length 40)))) ++ ([7#8, 7#8, 7#8] : List Byte)) 0 ((([1#8, 2#8] : List Byte) ++ (seg b1 0 (min b1.length 40))).length)).length) cm164, true⟩ :: ⟨some b93, 8, 1, fun _ => .int .i64 mark2, true⟩ :: ⟨some b93, 9, 1, fun _ => .int .i64 1, true⟩ :: ⟨some b93, 10, 1, fun _ => .int .i64 2, true⟩ :: ⟨some b93, 11, 1, fun _ => .slice am203 ((seg ((([] : List Byte) ++ (([1#8, 2#8] : List Byte) ++ (seg b1 0 (min b1.length 40)))) ++ ([7#8, 7#8, 7#8] : List Byte)) 0 ((([1#8, 2#8] : List Byte) ++ (seg b1 0 (min b1.length 40))).length)).length) cm203, true⟩ :: ⟨some b89, 0, 1, fun _ => .int .i64 0, true⟩ :: ⟨some b89, 1, 1, fun _ => .int .i64 1, true⟩ :: ⟨some b89, 2, 1, fun _ => .int .i64 2, true⟩ :: ⟨some b89, 3, 1, fun _ => .slice a89_0 ((seg ((([] : List Byte) ++ (([1#8, 2#8] : List Byte) ++ (seg b1 0 (min b1.length 40)))) ++ ([7#8, 7#8, 7#8] : List Byte)) 0 ((([1#8, 2#8] : List Byte) ++ (seg b1 0 (min b1.length 40))).length)).length) cap89_0, true⟩ :: ⟨some b89, 4, 1, fun _ => .int .i64 1, true⟩ :: ⟨some b89, 5, 1, fun _ => .int .i64 2, true⟩ :: ⟨some b89, 6, 1, fun _ => .int .i64 1, true⟩ :: ⟨some b89, 7, 1, fun _ => .slice a89_1 ((seg ((([] : List Byte) ++ (([1#8, 2#8] : List Byte) ++ (seg b1 0 (min b1.length 40)))) ++ ([7#8, 7#8, 7#8] : List Byte)) 0 ((([1#8, 2#8] : List Byte) ++ (seg b1 0 (min b1.length 40))).length)).length) cap89_1, true⟩ :: ⟨some b89, 8, 1, fun _ => .int .i64 2, true⟩ :: ⟨some b89, 9, 1, fun _ => .int .i64 1, true⟩ :: ⟨some b89, 10, 1, fun _ => .int .i64 2, true⟩ :: ⟨some b89, 11, 1, fun _ => .slice a89_2 ((seg ((([] : List Byte) ++ (([1#8, 2#8] : List Byte) ++ (seg b1 0 (min b1.length 40)))) ++ ([7#8, 7#8, 7#8] : List Byte)) 0 ((([1#8, 2#8] : List Byte) ++ (seg b1 0 (min b1.length 40))).length)).length) cap89_2, true⟩ :: ⟨pb89_0, 0, cap89_0, fun q => VU .u8 (F89_0 q), true⟩ :: ⟨pb89_1, 0, cap89_1, fun q => VU .u8 (F89_1 q), true⟩ :: ⟨pb89_2, 0, cap89_2, fun q => VU .u8 (F89_2 q), true⟩ :: ⟨pb37, 0, cap37, fun q => VU .u8 (F37 q), true⟩ :: ⟨pb33, 0, cap33, fun q => VU .u8 (F33 q), true⟩ :: ⟨pb27, 0, cap27, fun q => VU .u8 (F27 q), true⟩ :: L) w292 := h292
        refine ⟨_, rfl, .inl ⟨PIn.keep (by exact PIn.nil) h292, ?_⟩⟩
        refine Plan.move_tuple rfl rfl <| Plan.extract_agg rfl rfl rfl <| Plan.extract_int rfl rfl rfl ?_
        refine Plan.alloc h292 rfl FNetHands.z60 PIn.nil fun b293 w293 hb293 h293 => ?_
        simp only [rngs, Nat.zero_add, Nat.reduceAdd, zca, zna] at h293
        refine Plan.storeP (ps := [(1, fun _ => .int .i64 0), (1, fun _ => .int .i64 1), (1, fun _ => .int .i64 2), (1, fun _ => .slice a27 ((seg ((([] : List Byte) ++ (([1#8, 2#8] : List Byte) ++ (seg b1 0 (min b1.length 40)))) ++ ([7#8, 7#8, 7#8] : List Byte)) 0 ((([1#8, 2#8] : List Byte) ++ (seg b1 0 (min b1.length 40))).length)).length) cap27)]) h293 rfl rfl rfl (.cons 0 rfl (.cons 1 rfl (.cons 2 rfl (.cons 3 rfl .nil)))) ⟨fun _ _ => rfl, fun _ _ => rfl, fun _ _ => rfl, fun _ _ => rfl, trivial⟩ FNetHands.sz60 (EffO.keep PIn.nil) fun w294 h294 => ?_
        simp only [zca, zna, zsz, zss] at h294
        refine Plan.assign_int rfl rfl <| Plan.nil (k290 _ _ ?_); clear k290
        refine W.seq_k fun _ k295 => W.seq_k fun _ k369 => ?_
        refine W.regionT [(0, true), (1, true), (2, true), (3, true), (4, true), (5, true), (6, true), (7, true), (8, true), (9, true), (10, true), (11, true), (12, true), (13, false), (14, true), (15, true), (16, true), (17, true), (18, true), (19, false), (20, true), (21, true)] (by kernel_rfl) ?_
        refine Plan.move_int rfl rfl <| Plan.cmpP (a := (0 : Int)) (b := (0 : Int)) (p := (0 : Nat) ≠ 0) rfl rfl rfl rfl icmp_neN <| Plan.move_bool rfl rfl <| Plan.fieldAddr 3 FNetHands.fld60_3 rfl rfl <| Plan.load0 h294 3 rfl rfl rfl (by omega) FNetHands.sc23 ?_
        refine Plan.toStrV h294 (ho27.bx 60 rfl) FNetHands.slu23 FNetHands.u5 FNetHands.str9 rfl rfl fun r370 hr370 => ?_
        refine Plan.move_slice rfl rfl ?_
        refine Plan.toStrV h294 (hb202.bx 27 rfl) FNetHands.slu23 FNetHands.u5 FNetHands.str9 rfl rfl fun r371 hr371 => ?_
        by_cases hc372 : (seg ((([] : List Byte) ++ (([1#8, 2#8] : List Byte) ++ (seg b1 0 (min b1.length 40)))) ++ ([7#8, 7#8, 7#8] : List Byte)) 0 ((([1#8, 2#8] : List Byte) ++ (seg b1 0 (min b1.length 40))).length)) = b202
        ·
         replace hR := ifT hR hc372
         refine Plan.neStrV (v := true) rfl rfl rfl (decide_eq_true hc372) <| Plan.pickFb rfl rfl rfl <| Plan.move_bool rfl rfl <| Plan.move_slice rfl rfl <| Plan.move_slice rfl rfl ?_
         obtain ⟨b387, hX386, hR0386⟩ := hR
         refine Plan.call (vs := [.slice (some ⟨b289, 0, none⟩) 3 cap289, .slice ab202 ((([1#8, 2#8] : List Byte) ++ (seg b1 0 (min b1.length 40))).length) cb202]) (R := fun e w => ∃ y_b387 : Bool, (b387 = y_b387) ∧ e = .returned (.bool y_b387) ∧ St B (w0.on [mapR kvI D60 [] m5 ([(1, (1, 2, 1, ((a33, (seg ((([] : List Byte) ++ (([1#8, 2#8] : List Byte) ++ (seg b1 0 (min b1.length 40)))) ++ ([7#8, 7#8, 7#8] : List Byte)) 0 ((([1#8, 2#8] : List Byte) ++ (seg b1 0 (min b1.length 40))).length)).length, cap33) : Option Addr × Nat × Nat))), (2, (2, 1, 2, ((a37, (seg ((([] : List Byte) ++ (([1#8, 2#8] : List Byte) ++ (seg b1 0 (min b1.length 40)))) ++ ([7#8, 7#8, 7#8] : List Byte)) 0 ((([1#8, 2#8] : List Byte) ++ (seg b1 0 (min b1.length 40))).length)).length, cap37) : Option Addr × Nat × Nat)))] : List (Int × Int × Int × Int × (Option Addr × Nat × Nat)))]) (⟨some b293, 0, 1, fun _ => .int .i64 0, true⟩ :: ⟨some b293, 1, 1, fun _ => .int .i64 1, true⟩ :: ⟨some b293, 2, 1, fun _ => .int .i64 2, true⟩ :: ⟨some b293, 3, 1, fun _ => .slice a27 ((seg ((([] : List Byte) ++ (([1#8, 2#8] : List Byte) ++ (seg b1 0 (min b1.length 40)))) ++ ([7#8, 7#8, 7#8] : List Byte)) 0 ((([1#8, 2#8] : List Byte) ++ (seg b1 0 (min b1.length 40))).length)).length) cap27, true⟩ :: ⟨some b5, 0, 1, fun _ => .int .i64 2, true⟩ :: ⟨some b5, 1, 1, fun _ => .int .i64 9, true⟩ :: ⟨some b5, 2, 1, fun _ => .map (some m5), true⟩ :: ⟨some b5, 3, 1, fun _ => .int .i64 3, true⟩ :: ⟨pb244, 0, cap244, fun q => VU .u8 (F244 q), true⟩ :: ⟨pb235, 0, cap235, fun q => VU .u8 (F235 q), true⟩ :: ⟨pb248, 0, cap248 * 1, F248, true⟩ :: ⟨pb225, 0, cap225, fun q => VU .u8 (F225 q), true⟩ :: ⟨pb202, 0, cb202, fun q => VU .u8 (Fb202 q), true⟩ :: r244 :: r235 :: r225 :: ⟨some b93, 0, 1, fun _ => .int .i64 mark2, true⟩ :: ⟨some b93, 1, 1, fun _ => .int .i64 1, true⟩ :: ⟨some b93, 2, 1, fun _ => .int .i64 2, true⟩ :: ⟨some b93, 3, 1, fun _ => .slice am125 ((seg ((([] : List Byte) ++ (([1#8, 2#8] : List Byte) ++ (seg b1 0 (min b1.length 40)))) ++ ([7#8, 7#8, 7#8] : List Byte)) 0 ((([1#8, 2#8] : List Byte) ++ (seg b1 0 (min b1.length 40))).length)).length) cm125, true⟩ :: ⟨some b93, 4, 1, fun _ => .int .i64 mark2, true⟩ :: ⟨some b93, 5, 1, fun _ => .int .i64 2, true⟩ :: ⟨some b93, 6, 1, fun _ => .int .i64 1, true⟩ :: ⟨some b93, 7, 1, fun _ => .slice am164 ((seg ((([] : List Byte) ++ (([1#8, 2#8] : List Byte) ++ (seg b1 0 (min b1.length 40)))) ++ ([7#8, 7#8, 7#8] : List Byte)) 0 ((([1#8, 2#8] : List Byte) ++ (seg b1 0 (min b1.length 40))).length)).length) cm164, true⟩ :: ⟨some b93, 8, 1, fun _ => .int .i64 mark2, true⟩ :: ⟨some b93, 9, 1, fun _ => .int .i64 1, true⟩ :: ⟨some b93, 10, 1, fun _ => .int .i64 2, true⟩ :: ⟨some b93, 11, 1, fun _ => .slice am203 ((seg ((([] : List Byte) ++ (([1#8, 2#8] : List Byte) ++ (seg b1 0 (min b1.length 40)))) ++ ([7#8, 7#8, 7#8] : List Byte)) 0 ((([1#8, 2#8] : List Byte) ++ (seg b1 0 (min b1.length 40))).length)).length) cm203, true⟩ :: ⟨some b89, 0, 1, fun _ => .int .i64 0, true⟩ :: ⟨some b89, 1, 1, fun _ => .int .i64 1, true⟩ :: ⟨some b89, 2, 1, fun _ => .int .i64 2, true⟩ :: ⟨some b89, 3, 1, fun _ => .slice a89_0 ((seg ((([] : List Byte) ++ (([1#8, 2#8] : List Byte) ++ (seg b1 0 (min b1.length 40)))) ++ ([7#8, 7#8, 7#8] : List Byte)) 0 ((([1#8, 2#8] : List Byte) ++ (seg b1 0 (min b1.length 40))).length)).length) cap89_0, true⟩ :: ⟨some b89, 4, 1, fun _ => .int .i64 1, true⟩ :: ⟨some b89, 5, 1, fun _ => .int .i64 2, true⟩ :: ⟨some b89, 6, 1, fun _ => .int .i64 1, true⟩ :: ⟨some b89, 7, 1, fun _ => .slice a89_1 ((seg ((([] : List Byte) ++ (([1#8, 2#8] : List Byte) ++ (seg b1 0 (min b1.length 40)))) ++ ([7#8, 7#8, 7#8] : List Byte)) 0 ((([1#8, 2#8] : List Byte) ++ (seg b1 0 (min b1.length 40))).length)).length) cap89_1, true⟩ :: ⟨some b89, 8, 1, fun _ => .int .i64 2, true⟩ :: ⟨some b89, 9, 1, fun _ => .int .i64 1, true⟩ :: ⟨some b89, 10, 1, fun _ => .int .i64 2, true⟩ :: ⟨some b89, 11, 1, fun _ => .slice a89_2 ((seg ((([] : List Byte) ++ (([1#8, 2#8] : List Byte) ++ (seg b1 0 (min b1.length 40)))) ++ ([7#8, 7#8, 7#8] : List Byte)) 0 ((([1#8, 2#8] : List Byte) ++ (seg b1 0 (min b1.length 40))).length)).length) cap89_2, true⟩ :: ⟨pb89_0, 0, cap89_0, fun q => VU .u8 (F89_0 q), true⟩ :: ⟨pb89_1, 0, cap89_1, fun q => VU .u8 (F89_1 q), true⟩ :: ⟨pb89_2, 0, cap89_2, fun q => VU .u8 (F89_2 q), true⟩ :: ⟨pb37, 0, cap37, fun q => VU .u8 (F37 q), true⟩ :: ⟨pb33, 0, cap33, fun q => VU .u8 (F33 q), true⟩ :: ⟨pb27, 0, cap27, fun q => VU .u8 (F27 q), true⟩ :: L) w) rfl FNetHands.call33 rfl ?_ ?_
         ·
          replace hR := hX386
          refine W.enter 32 Try.func33 rfl rfl rfl ?_
          refine W.seq_k fun _ k388 => W.regionT [(0, true)] (by kernel_rfl) ?_
          refine Plan.assign_bool rfl rfl <| Plan.nil (k388 _ _ ?_); clear k388
          refine W.seq_k fun _ k389 => W.regionT [(0, true), (1, true), (2, true), (3, true), (4, true), (5, true), (6, true), (7, true), (8, true), (9, false), (10, true), (11, true), (12, true), (13, true), (14, true), (15, true), (16, true), (17, false), (18, true), (19, true), (20, true), (21, true), (22, true), (23, true), (24, true), (25, false), (26, true), (27, true)] (by kernel_rfl) ?_
          refine Plan.move_slice rfl rfl <| Plan.len FNetHands.isl57 rfl rfl <| Plan.cmpP (a := (3 : Int)) (b := (3 : Int)) (p := (3 : Nat) = 3) rfl rfl rfl rfl icmp_eqN <| Plan.move_bool rfl rfl <| Plan.move_slice rfl rfl <| Plan.idxSlO (j := 0) (o' := 0) FNetHands.sl57 rfl rfl rfl (by omega) rfl <| Plan.loadA h294 rfl rfl (.cons 8 rfl (.cons 9 rfl (.cons 10 rfl (.cons 11 rfl .nil)))) FNetHands.agg60 <| Plan.move_slice rfl rfl ?_
          refine Plan.buildP (ps := [(1, fun _ => VN 0), (1, fun _ => VN 1), (1, fun _ => VN 2), (1, fun _ => .slice ab202 ((([1#8, 2#8] : List Byte) ++ (seg b1 0 (min b1.length 40))).length) cb202)]) FNetHands.pl60 (by decide) FNetHands.z60 rfl rfl (.one [] [(1, fun _ => VN 0), (1, fun _ => VN 0), (1, fun _ => .slice none 0 0)] (fun _ => VN 0) rfl rfl (.one [(1, fun _ => VN 0)] [(1, fun _ => VN 0), (1, fun _ => .slice none 0 0)] (fun _ => VN 0) rfl rfl (.one [(1, fun _ => VN 0), (1, fun _ => VN 1)] [(1, fun _ => .slice none 0 0)] (fun _ => VN 0) rfl rfl (.one [(1, fun _ => VN 0), (1, fun _ => VN 1), (1, fun _ => VN 2)] [] (fun _ => .slice none 0 0) rfl rfl .nil)))) ?_
          obtain ⟨x_391, hr390, hR⟩ := hR
          refine Plan.call (vs := [AG [(1, fun _ => .int .i64 0), (1, fun _ => .int .i64 1), (1, fun _ => .int .i64 2), (1, fun _ => .slice a289_0 ((seg ((([] : List Byte) ++ (([1#8, 2#8] : List Byte) ++ (seg b1 0 (min b1.length 40)))) ++ ([7#8, 7#8, 7#8] : List Byte)) 0 ((([1#8, 2#8] : List Byte) ++ (seg b1 0 (min b1.length 40))).length)).length) cap289_0)], AG [(1, fun _ => VN 0), (1, fun _ => VN 1), (1, fun _ => VN 2), (1, fun _ => .slice ab202 ((([1#8, 2#8] : List Byte) ++ (seg b1 0 (min b1.length 40))).length) cb202)]]) rfl FNetHands.call69 rfl (lethelaw23_same_ok (by exact (ho289_0.bx 20 rfl)) (by exact (hb202.bx 27 rfl)) hr390 h294) ?_
          rintro _ w392 ⟨rfl, h392⟩
          refine ⟨_, rfl, .inr ⟨rfl, ?_⟩⟩
          by_cases hc393 : x_391 = true
          ·
           replace hR := ifT hR hc393
           obtain rfl : x_391 = true := hc393
           refine Plan.pickTb rfl rfl rfl <| Plan.move_bool rfl rfl <| Plan.move_slice rfl rfl <| Plan.idxSlO (j := 1) (o' := 4) FNetHands.sl57 rfl rfl rfl (by omega) rfl <| Plan.loadA h392 rfl rfl (.cons 12 rfl (.cons 13 rfl (.cons 14 rfl (.cons 15 rfl .nil)))) FNetHands.agg60 <| Plan.move_slice rfl rfl ?_
           refine Plan.buildP (ps := [(1, fun _ => VN 1), (1, fun _ => VN 2), (1, fun _ => VN 1), (1, fun _ => .slice ab202 ((([1#8, 2#8] : List Byte) ++ (seg b1 0 (min b1.length 40))).length) cb202)]) FNetHands.pl60 (by decide) FNetHands.z60 rfl rfl (.one [] [(1, fun _ => VN 0), (1, fun _ => VN 0), (1, fun _ => .slice none 0 0)] (fun _ => VN 0) rfl rfl (.one [(1, fun _ => VN 1)] [(1, fun _ => VN 0), (1, fun _ => .slice none 0 0)] (fun _ => VN 0) rfl rfl (.one [(1, fun _ => VN 1), (1, fun _ => VN 2)] [(1, fun _ => .slice none 0 0)] (fun _ => VN 0) rfl rfl (.one [(1, fun _ => VN 1), (1, fun _ => VN 2), (1, fun _ => VN 1)] [] (fun _ => .slice none 0 0) rfl rfl .nil)))) ?_
           obtain ⟨x_395, hr394, hR⟩ := hR
           refine Plan.call (vs := [AG [(1, fun _ => .int .i64 1), (1, fun _ => .int .i64 2), (1, fun _ => .int .i64 1), (1, fun _ => .slice a289_1 ((seg ((([] : List Byte) ++ (([1#8, 2#8] : List Byte) ++ (seg b1 0 (min b1.length 40)))) ++ ([7#8, 7#8, 7#8] : List Byte)) 0 ((([1#8, 2#8] : List Byte) ++ (seg b1 0 (min b1.length 40))).length)).length) cap289_1)], AG [(1, fun _ => VN 1), (1, fun _ => VN 2), (1, fun _ => VN 1), (1, fun _ => .slice ab202 ((([1#8, 2#8] : List Byte) ++ (seg b1 0 (min b1.length 40))).length) cb202)]]) rfl FNetHands.call69 rfl (lethelaw23_same_ok (by exact (ho289_1.bx 21 rfl)) (by exact (hb202.bx 27 rfl)) hr394 h392) ?_
           rintro _ w396 ⟨rfl, h396⟩
           refine ⟨_, rfl, .inr ⟨rfl, ?_⟩⟩
           by_cases hc397 : x_395 = true
           ·
            replace hR := ifT hR hc397
            obtain rfl : x_395 = true := hc397
            refine Plan.pickTb rfl rfl rfl <| Plan.move_bool rfl rfl <| Plan.move_slice rfl rfl <| Plan.idxSlO (j := 2) (o' := 8) FNetHands.sl57 rfl rfl rfl (by omega) rfl <| Plan.loadA h396 rfl rfl (.cons 16 rfl (.cons 17 rfl (.cons 18 rfl (.cons 19 rfl .nil)))) FNetHands.agg60 <| Plan.move_slice rfl rfl ?_
            refine Plan.buildP (ps := [(1, fun _ => VN 2), (1, fun _ => VN 1), (1, fun _ => VN 2), (1, fun _ => .slice ab202 ((([1#8, 2#8] : List Byte) ++ (seg b1 0 (min b1.length 40))).length) cb202)]) FNetHands.pl60 (by decide) FNetHands.z60 rfl rfl (.one [] [(1, fun _ => VN 0), (1, fun _ => VN 0), (1, fun _ => .slice none 0 0)] (fun _ => VN 0) rfl rfl (.one [(1, fun _ => VN 2)] [(1, fun _ => VN 0), (1, fun _ => .slice none 0 0)] (fun _ => VN 0) rfl rfl (.one [(1, fun _ => VN 2), (1, fun _ => VN 1)] [(1, fun _ => .slice none 0 0)] (fun _ => VN 0) rfl rfl (.one [(1, fun _ => VN 2), (1, fun _ => VN 1), (1, fun _ => VN 2)] [] (fun _ => .slice none 0 0) rfl rfl .nil)))) ?_
            obtain ⟨x_399, hr398, hR⟩ := hR
            refine Plan.call (vs := [AG [(1, fun _ => .int .i64 2), (1, fun _ => .int .i64 1), (1, fun _ => .int .i64 2), (1, fun _ => .slice a289_2 ((seg ((([] : List Byte) ++ (([1#8, 2#8] : List Byte) ++ (seg b1 0 (min b1.length 40)))) ++ ([7#8, 7#8, 7#8] : List Byte)) 0 ((([1#8, 2#8] : List Byte) ++ (seg b1 0 (min b1.length 40))).length)).length) cap289_2)], AG [(1, fun _ => VN 2), (1, fun _ => VN 1), (1, fun _ => VN 2), (1, fun _ => .slice ab202 ((([1#8, 2#8] : List Byte) ++ (seg b1 0 (min b1.length 40))).length) cb202)]]) rfl FNetHands.call69 rfl (lethelaw23_same_ok (by exact (ho289_2.bx 22 rfl)) (by exact (hb202.bx 27 rfl)) hr398 h396) ?_
            rintro _ w400 ⟨rfl, h400⟩
            refine ⟨_, rfl, .inr ⟨rfl, ?_⟩⟩
            refine Plan.pickTb rfl rfl rfl <| Plan.assign_bool rfl rfl <| Plan.nil (k389 _ _ ?_); clear k389
            refine W.ret (finR_ret ?_)
            have h401 := St.pickT (C := [_, _, _, _, _, _, _, _, _, _, _, _, _, _, _, _, _, _, _, _, _, _, _, _, _, _, _, _, _, _, _, _, _, _, _, _, _, _, _, _, _, _, _, _, _, _, _, _, _, _, _, _, _, _, _, _, _, _, _, _, _]) h400 [0, 1, 2, 3, 4, 5, 6, 7, 23, 24, 25, 26, 27, 28, 29, 30, 31, 32, 33, 34, 35, 36, 37, 38, 39, 40, 41, 42, 43, 44, 45, 46, 47, 48, 49, 50, 51, 52, 53, 54, 55, 56, 57, 58, 59, 60] (by decide)
            simp only [pick, zfc, zfn, zgz, zgs, zca, zna] at h401
            refine RetOk.mk (.tmp_bool rfl .nil) ?_
            exact ⟨x_399, hR, rfl, h401⟩
           ·
            replace hR := ifF hR hc397
            obtain rfl : x_395 = false := Bool.eq_false_iff.2 hc397
            refine Plan.pickTb rfl rfl rfl <| Plan.move_bool rfl rfl <| Plan.passed rfl <| Plan.passed rfl <| Plan.passed rfl <| Plan.passed rfl <| Plan.passed rfl <| Plan.passed rfl ?_
            refine Plan.pickFb rfl rfl rfl <| Plan.assign_bool rfl rfl <| Plan.nil (k389 _ _ ?_); clear k389
            refine W.ret (finR_ret ?_)
            have h402 := St.pickT (C := [_, _, _, _, _, _, _, _, _, _, _, _, _, _, _, _, _, _, _, _, _, _, _, _, _, _, _, _, _, _, _, _, _, _, _, _, _, _, _, _, _, _, _, _, _, _, _, _, _, _, _, _, _, _, _, _, _, _, _, _, _]) h396 [0, 1, 2, 3, 4, 5, 6, 7, 23, 24, 25, 26, 27, 28, 29, 30, 31, 32, 33, 34, 35, 36, 37, 38, 39, 40, 41, 42, 43, 44, 45, 46, 47, 48, 49, 50, 51, 52, 53, 54, 55, 56, 57, 58, 59, 60] (by decide)
            simp only [pick, zfc, zfn, zgz, zgs, zca, zna] at h402
            refine RetOk.mk (.tmp_bool rfl .nil) ?_
            exact ⟨false, hR, rfl, h402⟩
          ·
           replace hR := ifF hR hc393
           obtain rfl : x_391 = false := Bool.eq_false_iff.2 hc393
           refine Plan.pickTb rfl rfl rfl <| Plan.move_bool rfl rfl <| Plan.passed rfl <| Plan.passed rfl <| Plan.passed rfl <| Plan.passed rfl <| Plan.passed rfl <| Plan.passed rfl ?_
           refine Plan.pickFb rfl rfl rfl <| Plan.move_bool rfl rfl <| Plan.passed rfl <| Plan.passed rfl <| Plan.passed rfl <| Plan.passed rfl <| Plan.passed rfl <| Plan.passed rfl ?_
           refine Plan.pickFb rfl rfl rfl <| Plan.assign_bool rfl rfl <| Plan.nil (k389 _ _ ?_); clear k389
           refine W.ret (finR_ret ?_)
           have h403 := St.pickT (C := [_, _, _, _, _, _, _, _, _, _, _, _, _, _, _, _, _, _, _, _, _, _, _, _, _, _, _, _, _, _, _, _, _, _, _, _, _, _, _, _, _, _, _, _, _, _, _, _, _, _, _, _, _, _, _, _, _, _, _, _, _]) h392 [0, 1, 2, 3, 4, 5, 6, 7, 23, 24, 25, 26, 27, 28, 29, 30, 31, 32, 33, 34, 35, 36, 37, 38, 39, 40, 41, 42, 43, 44, 45, 46, 47, 48, 49, 50, 51, 52, 53, 54, 55, 56, 57, 58, 59, 60] (by decide)
           simp only [pick, zfc, zfn, zgz, zgs, zca, zna] at h403
           refine RetOk.mk (.tmp_bool rfl .nil) ?_
           exact ⟨false, hR, rfl, h403⟩
         ·
          rintro _ w404 ⟨y_b387, hy404_0, rfl, h404⟩
          subst hy404_0
          replace hR := hR0386
          refine ⟨_, rfl, .inl ⟨PIn.keep (by exact (PIn.or 12 hr371 (PIn.or 45 hr370 (PIn.cons 3 rfl PIn.nil)))) h404, ?_⟩⟩
          by_cases hc405 : b387 = true
          ·
           replace hR := ifT hR hc405
           obtain rfl : b387 = true := hc405
           refine Plan.notT rfl rfl <| Plan.pickFb rfl rfl rfl <| Plan.move_bool rfl rfl <| Plan.move_slice rfl rfl <| Plan.move_slice rfl rfl ?_
           obtain ⟨b420, hX419, hR0419⟩ := hR
           refine Plan.call (vs := [.slice (some ⟨b89, 0, none⟩) 3 cap89, .slice ab202 ((([1#8, 2#8] : List Byte) ++ (seg b1 0 (min b1.length 40))).length) cb202]) (R := fun e w => ∃ y_b420 : Bool, (b420 = y_b420) ∧ e = .returned (.bool y_b420) ∧ St B (w0.on [mapR kvI D60 [] m5 ([(1, (1, 2, 1, ((a33, (seg ((([] : List Byte) ++ (([1#8, 2#8] : List Byte) ++ (seg b1 0 (min b1.length 40)))) ++ ([7#8, 7#8, 7#8] : List Byte)) 0 ((([1#8, 2#8] : List Byte) ++ (seg b1 0 (min b1.length 40))).length)).length, cap33) : Option Addr × Nat × Nat))), (2, (2, 1, 2, ((a37, (seg ((([] : List Byte) ++ (([1#8, 2#8] : List Byte) ++ (seg b1 0 (min b1.length 40)))) ++ ([7#8, 7#8, 7#8] : List Byte)) 0 ((([1#8, 2#8] : List Byte) ++ (seg b1 0 (min b1.length 40))).length)).length, cap37) : Option Addr × Nat × Nat)))] : List (Int × Int × Int × Int × (Option Addr × Nat × Nat)))]) (⟨some b293, 0, 1, fun _ => .int .i64 0, true⟩ :: ⟨some b293, 1, 1, fun _ => .int .i64 1, true⟩ :: ⟨some b293, 2, 1, fun _ => .int .i64 2, true⟩ :: ⟨some b293, 3, 1, fun _ => .slice a27 ((seg ((([] : List Byte) ++ (([1#8, 2#8] : List Byte) ++ (seg b1 0 (min b1.length 40)))) ++ ([7#8, 7#8, 7#8] : List Byte)) 0 ((([1#8, 2#8] : List Byte) ++ (seg b1 0 (min b1.length 40))).length)).length) cap27, true⟩ :: ⟨some b5, 0, 1, fun _ => .int .i64 2, true⟩ :: ⟨some b5, 1, 1, fun _ => .int .i64 9, true⟩ :: ⟨some b5, 2, 1, fun _ => .map (some m5), true⟩ :: ⟨some b5, 3, 1, fun _ => .int .i64 3, true⟩ :: ⟨pb244, 0, cap244, fun q => VU .u8 (F244 q), true⟩ :: ⟨pb235, 0, cap235, fun q => VU .u8 (F235 q), true⟩ :: ⟨pb248, 0, cap248 * 1, F248, true⟩ :: ⟨pb225, 0, cap225, fun q => VU .u8 (F225 q), true⟩ :: ⟨pb202, 0, cb202, fun q => VU .u8 (Fb202 q), true⟩ :: r244 :: r235 :: r225 :: ⟨some b93, 0, 1, fun _ => .int .i64 mark2, true⟩ :: ⟨some b93, 1, 1, fun _ => .int .i64 1, true⟩ :: ⟨some b93, 2, 1, fun _ => .int .i64 2, true⟩ :: ⟨some b93, 3, 1, fun _ => .slice am125 ((seg ((([] : List Byte) ++ (([1#8, 2#8] : List Byte) ++ (seg b1 0 (min b1.length 40)))) ++ ([7#8, 7#8, 7#8] : List Byte)) 0 ((([1#8, 2#8] : List Byte) ++ (seg b1 0 (min b1.length 40))).length)).length) cm125, true⟩ :: ⟨some b93, 4, 1, fun _ => .int .i64 mark2, true⟩ :: ⟨some b93, 5, 1, fun _ => .int .i64 2, true⟩ :: ⟨some b93, 6, 1, fun _ => .int .i64 1, true⟩ :: ⟨some b93, 7, 1, fun _ => .slice am164 ((seg ((([] : List Byte) ++ (([1#8, 2#8] : List Byte) ++ (seg b1 0 (min b1.length 40)))) ++ ([7#8, 7#8, 7#8] : List Byte)) 0 ((([1#8, 2#8] : List Byte) ++ (seg b1 0 (min b1.length 40))).length)).length) cm164, true⟩ :: ⟨some b93, 8, 1, fun _ => .int .i64 mark2, true⟩ :: ⟨some b93, 9, 1, fun _ => .int .i64 1, true⟩ :: ⟨some b93, 10, 1, fun _ => .int .i64 2, true⟩ :: ⟨some b93, 11, 1, fun _ => .slice am203 ((seg ((([] : List Byte) ++ (([1#8, 2#8] : List Byte) ++ (seg b1 0 (min b1.length 40)))) ++ ([7#8, 7#8, 7#8] : List Byte)) 0 ((([1#8, 2#8] : List Byte) ++ (seg b1 0 (min b1.length 40))).length)).length) cm203, true⟩ :: ⟨pb37, 0, cap37, fun q => VU .u8 (F37 q), true⟩ :: ⟨pb33, 0, cap33, fun q => VU .u8 (F33 q), true⟩ :: ⟨pb27, 0, cap27, fun q => VU .u8 (F27 q), true⟩ :: L) w) rfl FNetHands.call33 rfl ?_ ?_
           ·
            replace hR := hX419
            refine W.enter 32 Try.func33 rfl rfl rfl ?_
            refine W.seq_k fun _ k421 => W.regionT [(0, true)] (by kernel_rfl) ?_
            refine Plan.assign_bool rfl rfl <| Plan.nil (k421 _ _ ?_); clear k421
            refine W.seq_k fun _ k422 => W.regionT [(0, true), (1, true), (2, true), (3, true), (4, true), (5, true), (6, true), (7, true), (8, true), (9, false), (10, true), (11, true), (12, true), (13, true), (14, true), (15, true), (16, true), (17, false), (18, true), (19, true), (20, true), (21, true), (22, true), (23, true), (24, true), (25, false), (26, true), (27, true)] (by kernel_rfl) ?_
            refine Plan.move_slice rfl rfl <| Plan.len FNetHands.isl57 rfl rfl <| Plan.cmpP (a := (3 : Int)) (b := (3 : Int)) (p := (3 : Nat) = 3) rfl rfl rfl rfl icmp_eqN <| Plan.move_bool rfl rfl <| Plan.move_slice rfl rfl <| Plan.idxSlO (j := 0) (o' := 0) FNetHands.sl57 rfl rfl rfl (by omega) rfl <| Plan.loadA h404 rfl rfl (.cons 28 rfl (.cons 29 rfl (.cons 30 rfl (.cons 31 rfl .nil)))) FNetHands.agg60 <| Plan.move_slice rfl rfl ?_
            refine Plan.buildP (ps := [(1, fun _ => VN 0), (1, fun _ => VN 1), (1, fun _ => VN 2), (1, fun _ => .slice ab202 ((([1#8, 2#8] : List Byte) ++ (seg b1 0 (min b1.length 40))).length) cb202)]) FNetHands.pl60 (by decide) FNetHands.z60 rfl rfl (.one [] [(1, fun _ => VN 0), (1, fun _ => VN 0), (1, fun _ => .slice none 0 0)] (fun _ => VN 0) rfl rfl (.one [(1, fun _ => VN 0)] [(1, fun _ => VN 0), (1, fun _ => .slice none 0 0)] (fun _ => VN 0) rfl rfl (.one [(1, fun _ => VN 0), (1, fun _ => VN 1)] [(1, fun _ => .slice none 0 0)] (fun _ => VN 0) rfl rfl (.one [(1, fun _ => VN 0), (1, fun _ => VN 1), (1, fun _ => VN 2)] [] (fun _ => .slice none 0 0) rfl rfl .nil)))) ?_
            obtain ⟨x_424, hr423, hR⟩ := hR
            refine Plan.call (vs := [AG [(1, fun _ => .int .i64 0), (1, fun _ => .int .i64 1), (1, fun _ => .int .i64 2), (1, fun _ => .slice a89_0 ((seg ((([] : List Byte) ++ (([1#8, 2#8] : List Byte) ++ (seg b1 0 (min b1.length 40)))) ++ ([7#8, 7#8, 7#8] : List Byte)) 0 ((([1#8, 2#8] : List Byte) ++ (seg b1 0 (min b1.length 40))).length)).length) cap89_0)], AG [(1, fun _ => VN 0), (1, fun _ => VN 1), (1, fun _ => VN 2), (1, fun _ => .slice ab202 ((([1#8, 2#8] : List Byte) ++ (seg b1 0 (min b1.length 40))).length) cb202)]]) rfl FNetHands.call69 rfl (lethelaw23_same_ok (by exact (ho89_0.bx 40 rfl)) (by exact (hb202.bx 12 rfl)) hr423 h404) ?_
            rintro _ w425 ⟨rfl, h425⟩
            refine ⟨_, rfl, .inr ⟨rfl, ?_⟩⟩
            by_cases hc426 : x_424 = true
            ·
             replace hR := ifT hR hc426
             obtain rfl : x_424 = true := hc426
             refine Plan.pickTb rfl rfl rfl <| Plan.move_bool rfl rfl <| Plan.move_slice rfl rfl <| Plan.idxSlO (j := 1) (o' := 4) FNetHands.sl57 rfl rfl rfl (by omega) rfl <| Plan.loadA h425 rfl rfl (.cons 32 rfl (.cons 33 rfl (.cons 34 rfl (.cons 35 rfl .nil)))) FNetHands.agg60 <| Plan.move_slice rfl rfl ?_
             refine Plan.buildP (ps := [(1, fun _ => VN 1), (1, fun _ => VN 2), (1, fun _ => VN 1), (1, fun _ => .slice ab202 ((([1#8, 2#8] : List Byte) ++ (seg b1 0 (min b1.length 40))).length) cb202)]) FNetHands.pl60 (by decide) FNetHands.z60 rfl rfl (.one [] [(1, fun _ => VN 0), (1, fun _ => VN 0), (1, fun _ => .slice none 0 0)] (fun _ => VN 0) rfl rfl (.one [(1, fun _ => VN 1)] [(1, fun _ => VN 0), (1, fun _ => .slice none 0 0)] (fun _ => VN 0) rfl rfl (.one [(1, fun _ => VN 1), (1, fun _ => VN 2)] [(1, fun _ => .slice none 0 0)] (fun _ => VN 0) rfl rfl (.one [(1, fun _ => VN 1), (1, fun _ => VN 2), (1, fun _ => VN 1)] [] (fun _ => .slice none 0 0) rfl rfl .nil)))) ?_
             obtain ⟨x_428, hr427, hR⟩ := hR
             refine Plan.call (vs := [AG [(1, fun _ => .int .i64 1), (1, fun _ => .int .i64 2), (1, fun _ => .int .i64 1), (1, fun _ => .slice a89_1 ((seg ((([] : List Byte) ++ (([1#8, 2#8] : List Byte) ++ (seg b1 0 (min b1.length 40)))) ++ ([7#8, 7#8, 7#8] : List Byte)) 0 ((([1#8, 2#8] : List Byte) ++ (seg b1 0 (min b1.length 40))).length)).length) cap89_1)], AG [(1, fun _ => VN 1), (1, fun _ => VN 2), (1, fun _ => VN 1), (1, fun _ => .slice ab202 ((([1#8, 2#8] : List Byte) ++ (seg b1 0 (min b1.length 40))).length) cb202)]]) rfl FNetHands.call69 rfl (lethelaw23_same_ok (by exact (ho89_1.bx 41 rfl)) (by exact (hb202.bx 12 rfl)) hr427 h425) ?_
             rintro _ w429 ⟨rfl, h429⟩
             refine ⟨_, rfl, .inr ⟨rfl, ?_⟩⟩
             by_cases hc430 : x_428 = true
             ·
              replace hR := ifT hR hc430
              obtain rfl : x_428 = true := hc430
              refine Plan.pickTb rfl rfl rfl <| Plan.move_bool rfl rfl <| Plan.move_slice rfl rfl <| Plan.idxSlO (j := 2) (o' := 8) FNetHands.sl57 rfl rfl rfl (by omega) rfl <| Plan.loadA h429 rfl rfl (.cons 36 rfl (.cons 37 rfl (.cons 38 rfl (.cons 39 rfl .nil)))) FNetHands.agg60 <| Plan.move_slice rfl rfl ?_
              refine Plan.buildP (ps := [(1, fun _ => VN 2), (1, fun _ => VN 1), (1, fun _ => VN 2), (1, fun _ => .slice ab202 ((([1#8, 2#8] : List Byte) ++ (seg b1 0 (min b1.length 40))).length) cb202)]) FNetHands.pl60 (by decide) FNetHands.z60 rfl rfl (.one [] [(1, fun _ => VN 0), (1, fun _ => VN 0), (1, fun _ => .slice none 0 0)] (fun _ => VN 0) rfl rfl (.one [(1, fun _ => VN 2)] [(1, fun _ => VN 0), (1, fun _ => .slice none 0 0)] (fun _ => VN 0) rfl rfl (.one [(1, fun _ => VN 2), (1, fun _ => VN 1)] [(1, fun _ => .slice none 0 0)] (fun _ => VN 0) rfl rfl (.one [(1, fun _ => VN 2), (1, fun _ => VN 1), (1, fun _ => VN 2)] [] (fun _ => .slice none 0 0) rfl rfl .nil)))) ?_
              obtain ⟨x_432, hr431, hR⟩ := hR
              refine Plan.call (vs := [AG [(1, fun _ => .int .i64 2), (1, fun _ => .int .i64 1), (1, fun _ => .int .i64 2), (1, fun _ => .slice a89_2 ((seg ((([] : List Byte) ++ (([1#8, 2#8] : List Byte) ++ (seg b1 0 (min b1.length 40)))) ++ ([7#8, 7#8, 7#8] : List Byte)) 0 ((([1#8, 2#8] : List Byte) ++ (seg b1 0 (min b1.length 40))).length)).length) cap89_2)], AG [(1, fun _ => VN 2), (1, fun _ => VN 1), (1, fun _ => VN 2), (1, fun _ => .slice ab202 ((([1#8, 2#8] : List Byte) ++ (seg b1 0 (min b1.length 40))).length) cb202)]]) rfl FNetHands.call69 rfl (lethelaw23_same_ok (by exact (ho89_2.bx 42 rfl)) (by exact (hb202.bx 12 rfl)) hr431 h429) ?_
              rintro _ w433 ⟨rfl, h433⟩
              refine ⟨_, rfl, .inr ⟨rfl, ?_⟩⟩
              refine Plan.pickTb rfl rfl rfl <| Plan.assign_bool rfl rfl <| Plan.nil (k422 _ _ ?_); clear k422
              refine W.ret (finR_ret ?_)
              have h434 := St.pickT (C := [_, _, _, _, _, _, _, _, _, _, _, _, _, _, _, _, _, _, _, _, _, _, _, _, _, _, _, _, _, _, _, _, _, _, _, _, _, _, _, _, _, _, _, _, _, _]) h433 [0, 1, 2, 3, 4, 5, 6, 7, 8, 9, 10, 11, 12, 13, 14, 15, 16, 17, 18, 19, 20, 21, 22, 23, 24, 25, 26, 27, 43, 44, 45] (by decide)
              simp only [pick, zfc, zfn, zgz, zgs, zca, zna] at h434
              refine RetOk.mk (.tmp_bool rfl .nil) ?_
              exact ⟨x_432, hR, rfl, h434⟩
             ·
              replace hR := ifF hR hc430
              obtain rfl : x_428 = false := Bool.eq_false_iff.2 hc430
              refine Plan.pickTb rfl rfl rfl <| Plan.move_bool rfl rfl <| Plan.passed rfl <| Plan.passed rfl <| Plan.passed rfl <| Plan.passed rfl <| Plan.passed rfl <| Plan.passed rfl ?_
              refine Plan.pickFb rfl rfl rfl <| Plan.assign_bool rfl rfl <| Plan.nil (k422 _ _ ?_); clear k422
              refine W.ret (finR_ret ?_)
              have h435 := St.pickT (C := [_, _, _, _, _, _, _, _, _, _, _, _, _, _, _, _, _, _, _, _, _, _, _, _, _, _, _, _, _, _, _, _, _, _, _, _, _, _, _, _, _, _, _, _, _, _]) h429 [0, 1, 2, 3, 4, 5, 6, 7, 8, 9, 10, 11, 12, 13, 14, 15, 16, 17, 18, 19, 20, 21, 22, 23, 24, 25, 26, 27, 43, 44, 45] (by decide)
              simp only [pick, zfc, zfn, zgz, zgs, zca, zna] at h435
              refine RetOk.mk (.tmp_bool rfl .nil) ?_
              exact ⟨false, hR, rfl, h435⟩
            ·
             replace hR := ifF hR hc426
             obtain rfl : x_424 = false := Bool.eq_false_iff.2 hc426
             refine Plan.pickTb rfl rfl rfl <| Plan.move_bool rfl rfl <| Plan.passed rfl <| Plan.passed rfl <| Plan.passed rfl <| Plan.passed rfl <| Plan.passed rfl <| Plan.passed rfl ?_
             refine Plan.pickFb rfl rfl rfl <| Plan.move_bool rfl rfl <| Plan.passed rfl <| Plan.passed rfl <| Plan.passed rfl <| Plan.passed rfl <| Plan.passed rfl <| Plan.passed rfl ?_
             refine Plan.pickFb rfl rfl rfl <| Plan.assign_bool rfl rfl <| Plan.nil (k422 _ _ ?_); clear k422
             refine W.ret (finR_ret ?_)
             have h436 := St.pickT (C := [_, _, _, _, _, _, _, _, _, _, _, _, _, _, _, _, _, _, _, _, _, _, _, _, _, _, _, _, _, _, _, _, _, _, _, _, _, _, _, _, _, _, _, _, _, _]) h425 [0, 1, 2, 3, 4, 5, 6, 7, 8, 9, 10, 11, 12, 13, 14, 15, 16, 17, 18, 19, 20, 21, 22, 23, 24, 25, 26, 27, 43, 44, 45] (by decide)
             simp only [pick, zfc, zfn, zgz, zgs, zca, zna] at h436
             refine RetOk.mk (.tmp_bool rfl .nil) ?_
             exact ⟨false, hR, rfl, h436⟩
           ·
            rintro _ w437 ⟨y_b420, hy437_0, rfl, h437⟩
            subst hy437_0
            replace hR := hR0419
            refine ⟨_, rfl, .inl ⟨PIn.keep (by exact (PIn.or 12 hr371 (PIn.or 30 hr370 (PIn.cons 3 rfl PIn.nil)))) h437, ?_⟩⟩
            refine Plan.not rfl rfl <| Plan.pickFb rfl rfl rfl <| Plan.nil (k369 _ _ ?_); clear k369
            by_cases hc438 : b420 = true
            ·
             replace hR := ifT hR hc438
             refine W.condF (congrArg Value.bool (congrArg Bool.not hc438)) ?_
             refine W.skip ?_
             refine k295 _ _ ?_; clear k295
             refine W.seq_k fun _ k439 => W.seq_k fun _ k440 => ?_
             refine W.regionT [(0, true)] (by kernel_rfl) ?_
             refine Plan.assign_int rfl rfl <| Plan.nil (k440 _ _ ?_); clear k440
             obtain ⟨b461, m462, hI463, hR0463⟩ := hR
             refine W.cutN (fun e w => ∃ y_b461 : List Byte, ∃ y_m462 : List Byte, (b461, m462) = (y_b461, y_m462) ∧ ∃ ab461 : Option Addr, ∃ pb461 : Option Nat, ∃ cb461 : Nat, ∃ Fb461 : Nat → Byte, ∃ am462 : Option Addr, ∃ pm462 : Option Nat, ∃ cm462 : Nat, ∃ Fm462 : Nat → Byte, EnvHas e [(0, .slice ab461 ((([1#8, 2#8] : List Byte) ++ (seg b1 0 (min b1.length 40))).length) cb461), (1, .int .i64 mark2), (5, .pointer (some ⟨b5, 0, none⟩)), (16, .slice (some ⟨b93, 0, none⟩) 3 cap93), (19, .slice a248 ((((([] : List (Option Addr × Nat × Nat)) ++ ([((a225, (m125 ++ ([(BitVec.ofInt 8 (w64 (mark2 + 9)))] : List Byte)).length, cap225) : Option Addr × Nat × Nat)] : List (Option Addr × Nat × Nat))) ++ ([((a235, (m164 ++ ([(BitVec.ofInt 8 (w64 (mark2 + 9)))] : List Byte)).length, cap235) : Option Addr × Nat × Nat)] : List (Option Addr × Nat × Nat))) ++ ([((a244, (m203 ++ ([(BitVec.ofInt 8 (w64 (mark2 + 9)))] : List Byte)).length, cap244) : Option Addr × Nat × Nat)] : List (Option Addr × Nat × Nat))).length) cap248), (22, .pointer (some ⟨b293, 0, none⟩))] ∧ St B (w0.on [mapR kvI D60 [] m5 ([(1, (1, 2, 1, ((a33, (seg ((([] : List Byte) ++ (([1#8, 2#8] : List Byte) ++ (seg b1 0 (min b1.length 40)))) ++ ([7#8, 7#8, 7#8] : List Byte)) 0 ((([1#8, 2#8] : List Byte) ++ (seg b1 0 (min b1.length 40))).length)).length, cap33) : Option Addr × Nat × Nat))), (2, (2, 1, 2, ((a37, (seg ((([] : List Byte) ++ (([1#8, 2#8] : List Byte) ++ (seg b1 0 (min b1.length 40)))) ++ ([7#8, 7#8, 7#8] : List Byte)) 0 ((([1#8, 2#8] : List Byte) ++ (seg b1 0 (min b1.length 40))).length)).length, cap37) : Option Addr × Nat × Nat)))] : List (Int × Int × Int × Int × (Option Addr × Nat × Nat)))]) (⟨pb461, 0, cb461, fun q => VU .u8 (Fb461 q), true⟩ :: ⟨pm462, 0, cm462, fun q => VU .u8 (Fm462 q), true⟩ :: ⟨some b293, 0, 1, fun _ => .int .i64 0, true⟩ :: ⟨some b293, 1, 1, fun _ => .int .i64 1, true⟩ :: ⟨some b293, 2, 1, fun _ => .int .i64 2, true⟩ :: ⟨some b293, 3, 1, fun _ => .slice am462 ((seg ((([] : List Byte) ++ (([1#8, 2#8] : List Byte) ++ (seg b1 0 (min b1.length 40)))) ++ ([7#8, 7#8, 7#8] : List Byte)) 0 ((([1#8, 2#8] : List Byte) ++ (seg b1 0 (min b1.length 40))).length)).length) cm462, true⟩ :: ⟨some b5, 0, 1, fun _ => .int .i64 2, true⟩ :: ⟨some b5, 1, 1, fun _ => .int .i64 9, true⟩ :: ⟨some b5, 2, 1, fun _ => .map (some m5), true⟩ :: ⟨some b5, 3, 1, fun _ => .int .i64 3, true⟩ :: ⟨pb244, 0, cap244, fun q => VU .u8 (F244 q), true⟩ :: ⟨pb235, 0, cap235, fun q => VU .u8 (F235 q), true⟩ :: ⟨pb248, 0, cap248 * 1, F248, true⟩ :: ⟨pb225, 0, cap225, fun q => VU .u8 (F225 q), true⟩ :: r244 :: r235 :: r225 :: ⟨some b93, 0, 1, fun _ => .int .i64 mark2, true⟩ :: ⟨some b93, 1, 1, fun _ => .int .i64 1, true⟩ :: ⟨some b93, 2, 1, fun _ => .int .i64 2, true⟩ :: ⟨some b93, 3, 1, fun _ => .slice am125 ((seg ((([] : List Byte) ++ (([1#8, 2#8] : List Byte) ++ (seg b1 0 (min b1.length 40)))) ++ ([7#8, 7#8, 7#8] : List Byte)) 0 ((([1#8, 2#8] : List Byte) ++ (seg b1 0 (min b1.length 40))).length)).length) cm125, true⟩ :: ⟨some b93, 4, 1, fun _ => .int .i64 mark2, true⟩ :: ⟨some b93, 5, 1, fun _ => .int .i64 2, true⟩ :: ⟨some b93, 6, 1, fun _ => .int .i64 1, true⟩ :: ⟨some b93, 7, 1, fun _ => .slice am164 ((seg ((([] : List Byte) ++ (([1#8, 2#8] : List Byte) ++ (seg b1 0 (min b1.length 40)))) ++ ([7#8, 7#8, 7#8] : List Byte)) 0 ((([1#8, 2#8] : List Byte) ++ (seg b1 0 (min b1.length 40))).length)).length) cm164, true⟩ :: ⟨some b93, 8, 1, fun _ => .int .i64 mark2, true⟩ :: ⟨some b93, 9, 1, fun _ => .int .i64 1, true⟩ :: ⟨some b93, 10, 1, fun _ => .int .i64 2, true⟩ :: ⟨some b93, 11, 1, fun _ => .slice am203 ((seg ((([] : List Byte) ++ (([1#8, 2#8] : List Byte) ++ (seg b1 0 (min b1.length 40)))) ++ ([7#8, 7#8, 7#8] : List Byte)) 0 ((([1#8, 2#8] : List Byte) ++ (seg b1 0 (min b1.length 40))).length)).length) cm203, true⟩ :: ⟨pb37, 0, cap37, fun q => VU .u8 (F37 q), true⟩ :: ⟨pb33, 0, cap33, fun q => VU .u8 (F33 q), true⟩ :: L) w ∧ Ow ab461 pb461 ((([1#8, 2#8] : List Byte) ++ (seg b1 0 (min b1.length 40))).length) cb461 Fb461 y_b461 ∧ Ow am462 pm462 ((seg ((([] : List Byte) ++ (([1#8, 2#8] : List Byte) ++ (seg b1 0 (min b1.length 40)))) ++ ([7#8, 7#8, 7#8] : List Byte)) 0 ((([1#8, 2#8] : List Byte) ++ (seg b1 0 (min b1.length 40))).length)).length) cm462 Fm462 y_m462) ?_ ?_
             ·
              refine W.block ?_
              have h464 := St.pickT (C := [_, _, _, _, _, _, _, _, _, _, _, _, _, _, _, _, _, _, _, _, _, _, _, _, _, _, _, _, _, _, _]) h437 [12, 30, 0, 1, 2, 3, 4, 5, 6, 7, 8, 9, 10, 11, 13, 14, 15, 16, 17, 18, 19, 20, 21, 22, 23, 24, 25, 26, 27, 28, 29] (by decide)
              simp only [pick, zfc, zfn, zgz, zgs, zca, zna] at h464
              refine W.iter hI463 (fun (s463 : ((List Byte) × Nat × (List Byte))) e w => ∃ ab458 : Option Addr, ∃ pb458 : Option Nat, ∃ cb458 : Nat, ∃ Fb458 : Nat → Byte, ∃ am460 : Option Addr, ∃ pm460 : Option Nat, ∃ cm460 : Nat, ∃ Fm460 : Nat → Byte, EnvHas e [(0, .slice ab458 ((([1#8, 2#8] : List Byte) ++ (seg b1 0 (min b1.length 40))).length) cb458), (1, .int .i64 mark2), (5, .pointer (some ⟨b5, 0, none⟩)), (16, .slice (some ⟨b93, 0, none⟩) 3 cap93), (19, .slice a248 ((((([] : List (Option Addr × Nat × Nat)) ++ ([((a225, (m125 ++ ([(BitVec.ofInt 8 (w64 (mark2 + 9)))] : List Byte)).length, cap225) : Option Addr × Nat × Nat)] : List (Option Addr × Nat × Nat))) ++ ([((a235, (m164 ++ ([(BitVec.ofInt 8 (w64 (mark2 + 9)))] : List Byte)).length, cap235) : Option Addr × Nat × Nat)] : List (Option Addr × Nat × Nat))) ++ ([((a244, (m203 ++ ([(BitVec.ofInt 8 (w64 (mark2 + 9)))] : List Byte)).length, cap244) : Option Addr × Nat × Nat)] : List (Option Addr × Nat × Nat))).length) cap248), (22, .pointer (some ⟨b293, 0, none⟩)), (23, VN s463.2.1)] ∧ St B (w0.on [mapR kvI D60 [] m5 ([(1, (1, 2, 1, ((a33, (seg ((([] : List Byte) ++ (([1#8, 2#8] : List Byte) ++ (seg b1 0 (min b1.length 40)))) ++ ([7#8, 7#8, 7#8] : List Byte)) 0 ((([1#8, 2#8] : List Byte) ++ (seg b1 0 (min b1.length 40))).length)).length, cap33) : Option Addr × Nat × Nat))), (2, (2, 1, 2, ((a37, (seg ((([] : List Byte) ++ (([1#8, 2#8] : List Byte) ++ (seg b1 0 (min b1.length 40)))) ++ ([7#8, 7#8, 7#8] : List Byte)) 0 ((([1#8, 2#8] : List Byte) ++ (seg b1 0 (min b1.length 40))).length)).length, cap37) : Option Addr × Nat × Nat)))] : List (Int × Int × Int × Int × (Option Addr × Nat × Nat)))]) (⟨pb458, 0, cb458, fun q => VU .u8 (Fb458 q), true⟩ :: ⟨pm460, 0, cm460, fun q => VU .u8 (Fm460 q), true⟩ :: ⟨some b293, 0, 1, fun _ => .int .i64 0, true⟩ :: ⟨some b293, 1, 1, fun _ => .int .i64 1, true⟩ :: ⟨some b293, 2, 1, fun _ => .int .i64 2, true⟩ :: ⟨some b293, 3, 1, fun _ => .slice am460 ((seg ((([] : List Byte) ++ (([1#8, 2#8] : List Byte) ++ (seg b1 0 (min b1.length 40)))) ++ ([7#8, 7#8, 7#8] : List Byte)) 0 ((([1#8, 2#8] : List Byte) ++ (seg b1 0 (min b1.length 40))).length)).length) cm460, true⟩ :: ⟨some b5, 0, 1, fun _ => .int .i64 2, true⟩ :: ⟨some b5, 1, 1, fun _ => .int .i64 9, true⟩ :: ⟨some b5, 2, 1, fun _ => .map (some m5), true⟩ :: ⟨some b5, 3, 1, fun _ => .int .i64 3, true⟩ :: ⟨pb244, 0, cap244, fun q => VU .u8 (F244 q), true⟩ :: ⟨pb235, 0, cap235, fun q => VU .u8 (F235 q), true⟩ :: ⟨pb248, 0, cap248 * 1, F248, true⟩ :: ⟨pb225, 0, cap225, fun q => VU .u8 (F225 q), true⟩ :: r244 :: r235 :: r225 :: ⟨some b93, 0, 1, fun _ => .int .i64 mark2, true⟩ :: ⟨some b93, 1, 1, fun _ => .int .i64 1, true⟩ :: ⟨some b93, 2, 1, fun _ => .int .i64 2, true⟩ :: ⟨some b93, 3, 1, fun _ => .slice am125 ((seg ((([] : List Byte) ++ (([1#8, 2#8] : List Byte) ++ (seg b1 0 (min b1.length 40)))) ++ ([7#8, 7#8, 7#8] : List Byte)) 0 ((([1#8, 2#8] : List Byte) ++ (seg b1 0 (min b1.length 40))).length)).length) cm125, true⟩ :: ⟨some b93, 4, 1, fun _ => .int .i64 mark2, true⟩ :: ⟨some b93, 5, 1, fun _ => .int .i64 2, true⟩ :: ⟨some b93, 6, 1, fun _ => .int .i64 1, true⟩ :: ⟨some b93, 7, 1, fun _ => .slice am164 ((seg ((([] : List Byte) ++ (([1#8, 2#8] : List Byte) ++ (seg b1 0 (min b1.length 40)))) ++ ([7#8, 7#8, 7#8] : List Byte)) 0 ((([1#8, 2#8] : List Byte) ++ (seg b1 0 (min b1.length 40))).length)).length) cm164, true⟩ :: ⟨some b93, 8, 1, fun _ => .int .i64 mark2, true⟩ :: ⟨some b93, 9, 1, fun _ => .int .i64 1, true⟩ :: ⟨some b93, 10, 1, fun _ => .int .i64 2, true⟩ :: ⟨some b93, 11, 1, fun _ => .slice am203 ((seg ((([] : List Byte) ++ (([1#8, 2#8] : List Byte) ++ (seg b1 0 (min b1.length 40)))) ++ ([7#8, 7#8, 7#8] : List Byte)) 0 ((([1#8, 2#8] : List Byte) ++ (seg b1 0 (min b1.length 40))).length)).length) cm203, true⟩ :: ⟨pb37, 0, cap37, fun q => VU .u8 (F37 q), true⟩ :: ⟨pb33, 0, cap33, fun q => VU .u8 (F33 q), true⟩ :: L) w ∧ Ow ab458 pb458 ((([1#8, 2#8] : List Byte) ++ (seg b1 0 (min b1.length 40))).length) cb458 Fb458 s463.1 ∧ Ow am460 pm460 ((seg ((([] : List Byte) ++ (([1#8, 2#8] : List Byte) ++ (seg b1 0 (min b1.length 40)))) ++ ([7#8, 7#8, 7#8] : List Byte)) 0 ((([1#8, 2#8] : List Byte) ++ (seg b1 0 (min b1.length 40))).length)).length) cm460 Fm460 s463.2.2) ⟨ab202, pb202, cb202, Fb202, a27, pb27, cap27, F27, (zer (zer (zer (zer (zer (zer (zer zen))))))), h464, hb202, ho27⟩ ?_
              rintro ⟨b458, i_459, m460⟩ o463 hR hx463 ev465 wl465 ⟨ab458, pb458, cb458, Fb458, am460, pm460, cm460, Fm460, he465, h465, hb458, hm460⟩
              obtain ⟨ev465, rfl⟩ := he465.open
              unfold lethelaw23_NetHands_l4 at hR
              refine W.seq_k fun _ k466 => W.seq_k fun _ k467 => ?_
              refine W.regionT [(0, true), (1, true), (2, true), (3, true), (4, true)] (by kernel_rfl) ?_
              refine Plan.move_int rfl rfl <| Plan.fieldAddr 3 FNetHands.fld60_3 rfl rfl <| Plan.load0 h465 5 rfl rfl rfl (by omega) FNetHands.sc23 <| Plan.len FNetHands.isl23 rfl rfl <| Plan.cmpP (a := (((i_459 : Nat) : Int) : Int)) (b := ((((seg ((([] : List Byte) ++ (([1#8, 2#8] : List Byte) ++ (seg b1 0 (min b1.length 40)))) ++ ([7#8, 7#8, 7#8] : List Byte)) 0 ((([1#8, 2#8] : List Byte) ++ (seg b1 0 (min b1.length 40))).length)).length : Nat) : Int) : Int)) (p := i_459 < (seg ((([] : List Byte) ++ (([1#8, 2#8] : List Byte) ++ (seg b1 0 (min b1.length 40)))) ++ ([7#8, 7#8, 7#8] : List Byte)) 0 ((([1#8, 2#8] : List Byte) ++ (seg b1 0 (min b1.length 40))).length)).length) rfl rfl rfl rfl icmp_ltN <| Plan.nil (k467 _ _ ?_); clear k467
              by_cases hc468 : i_459 < (seg ((([] : List Byte) ++ (([1#8, 2#8] : List Byte) ++ (seg b1 0 (min b1.length 40)))) ++ ([7#8, 7#8, 7#8] : List Byte)) 0 ((([1#8, 2#8] : List Byte) ++ (seg b1 0 (min b1.length 40))).length)).length
              ·
               replace hR := ifT hR hc468
               refine W.condT (congrArg Value.bool (decide_eq_true hc468)) ?_
               refine W.skip ?_
               refine k466 _ _ ?_; clear k466
               refine W.seq_k fun _ k469 => ?_
               refine W.block ?_
               refine W.regionT [(0, true), (1, true), (2, true), (3, true), (4, true), (5, true), (6, true), (7, false)] (by kernel_rfl) ?_
               refine Plan.fieldAddr 3 FNetHands.fld60_3 rfl rfl <| Plan.load0 h465 5 rfl rfl rfl (by omega) FNetHands.sc23 <| Plan.move_int rfl rfl <| Plan.move_int rfl rfl <| Plan.addW (a := mark2) (b := 3) rfl rfl rfl <| Plan.convIU .u8 (a := (w64 (mark2 + 3))) FNetHands.u5 FNetHands.some3 rfl rfl ?_
               obtain ⟨hc470, hR⟩ := hR
               refine Plan.idxVS (j := i_459) h465 (hm460.bx 1 rfl) FNetHands.sl23 rfl rfl rfl hc470 ?_
               refine Plan.storeO (j := i_459) (Y := (BitVec.ofInt 8 (w64 (mark2 + 3)))) h465 1 hm460 rfl rfl rfl rfl hc470 FNetHands.sz5 rfl fun w471 F471 ho471 h471 => ?_
               simp only [zca, zna, zsz, zss] at h471
               have e471 : (m460.set i_459 (BitVec.ofInt 8 (w64 (mark2 + 3)))).length = m460.length := List.length_set
               refine Plan.nil ?_
               refine blockR_norm ?_
               refine k469 _ _ ?_; clear k469
               refine W.regionT [(0, true), (1, true), (2, true)] (by kernel_rfl) ?_
               refine Plan.move_int rfl rfl ?_
               obtain ⟨hc472, hR⟩ := hR
               refine Plan.addN (a := i_459) (b := 1) rfl rfl rfl (by omega) <| Plan.assign_int rfl rfl <| Plan.nil ?_
               exact iterR_norm ⟨_, hR, ab458, pb458, cb458, Fb458, am460, pm460, cm460, F471, (zer (zer (zer (zer (zer (zer (zer zen))))))), h471, hb458, (show Ow _ _ ((seg ((([] : List Byte) ++ (([1#8, 2#8] : List Byte) ++ (seg b1 0 (min b1.length 40)))) ++ ([7#8, 7#8, 7#8] : List Byte)) 0 ((([1#8, 2#8] : List Byte) ++ (seg b1 0 (min b1.length 40))).length)).length) _ _ _ from ho471)⟩
              ·
               replace hR := ifF hR hc468
               refine W.condF (congrArg Value.bool (decide_eq_false hc468)) ?_
               refine W.exit (thenR_exit (iterR_exit (blockR_here ?_)))
               exact ⟨b458, m460, (hx463 _ hR).symm, ab458, pb458, cb458, Fb458, am460, pm460, cm460, Fm460, (zer (zer (zer (zer (zer (zer zen)))))), h465, hb458, hm460⟩
             ·
              rintro ev473 wl473 ⟨y_b461, y_m462, hy473, ab461, pb461, cb461, Fb461, am462, pm462, cm462, Fm462, he473, h473, hb461, hm462⟩
              obtain ⟨ev473, rfl⟩ := he473.open
              cases hy473
              replace hR := hR0463
              refine k439 _ _ ?_; clear k439
              refine W.seq_k fun _ k474 => W.regionT [(0, true), (1, true), (2, true), (3, true), (4, true), (5, false), (6, false), (7, true), (8, false)] (by kernel_rfl) ?_
              refine Plan.fieldAddr 3 FNetHands.fld60_3 rfl rfl <| Plan.load0 h473 5 rfl rfl rfl (by omega) FNetHands.sc23 <| Plan.move_int rfl rfl <| Plan.addW (a := mark2) (b := 4) rfl rfl rfl <| Plan.convIU .u8 (a := (w64 (mark2 + 4))) FNetHands.u5 FNetHands.some3 rfl rfl ?_
              refine Plan.buildSlice h473 (ps := [(1, fun q => VU .u8 (lit ([(BitVec.ofInt 8 (w64 (mark2 + 4)))] : List Byte) q))]) FNetHands.slu23 FNetHands.sz5 FNetHands.zv5 (by decide) (by decide) rfl rfl rfl (EffO.keep (PIn.cons 5 rfl PIn.nil)) fun b475 w475 hb475 h475 => ?_
              simp only [rngs, List.cons_append, List.nil_append] at h475
              have ho475 : Ow (some ⟨b475, 0, none⟩) (some b475) ([(BitVec.ofInt 8 (w64 (mark2 + 4)))] : List Byte).length 1 (lit ([(BitVec.ofInt 8 (w64 (mark2 + 4)))] : List Byte)) ([(BitVec.ofInt 8 (w64 (mark2 + 4)))] : List Byte) := ⟨.inr ⟨b475, rfl, rfl⟩, Nat.le_refl _, rfl, fun q _ => rfl⟩
              obtain ⟨hc477, hR⟩ := hR
              refine Plan.appendOK (X := m462) (Y := ([(BitVec.ofInt 8 (w64 (mark2 + 4)))] : List Byte)) h475 2 hm462 FNetHands.el23 FNetHands.sl23 rfl rfl rfl rfl (ho475.bx 0 rfl) hc477 (fun _ _ => EffO.wait rfl) fun a476 pb476 cap476 F476 r476 iz476 w476 ho476 hi476 hv476 h476 => ?_
              simp only [zca, zna, zsz, zss] at h476 hv476
              refine Plan.fieldAddr 3 FNetHands.fld60_3 rfl rfl ?_
              refine Plan.storeC h476 7 rfl rfl rfl rfl rfl FNetHands.sz23 rfl fun w478 h478 => ?_
              simp only [zca, zna, zsz, zss] at h478
              refine Plan.nil (k474 _ _ ?_); clear k474
              refine W.seq_k fun _ k479 => W.regionT [(0, true), (1, false), (2, true), (3, true), (4, true), (5, false), (6, false), (7, true)] (by kernel_rfl) ?_
              refine Plan.move_ptr rfl rfl ?_
              have h480 := St.pickT (C := [_, _, _, _, _, _, _, _, _, _, _, _, _, _, _, _, _, _, _, _, _, _, _, _, _, _, _, _, _, _, _, _, _]) h478 [8, 9, 10, 11, 0, 1, 2, 3, 4, 5, 6, 7, 12, 13, 14, 15, 16, 17, 18, 19, 20, 21, 22, 23, 24, 25, 26, 27, 28, 29, 30, 31, 32] (by decide)
              simp only [pick, zfc, zfn, zgz, zgs, zca, zna] at h480
              refine Plan.call (vs := [.pointer (some ⟨b5, 0, none⟩), VN 2]) rfl FNetHands.call34 rfl (net_Net_Deliver_raw (w0 := w0) (x9 := (2, 1, 2, ((a37, (seg ((([] : List Byte) ++ (([1#8, 2#8] : List Byte) ++ (seg b1 0 (min b1.length 40)))) ++ ([7#8, 7#8, 7#8] : List Byte)) 0 ((([1#8, 2#8] : List Byte) ++ (seg b1 0 (min b1.length 40))).length)).length, cap37) : Option Addr × Nat × Nat))) rfl h480) ?_
              rintro _ w481 ⟨rfl, h481⟩
              replace h481 : St B (w0.on [mapR kvI D60 [] m5 ([(1, (1, 2, 1, ((a33, (seg ((([] : List Byte) ++ (([1#8, 2#8] : List Byte) ++ (seg b1 0 (min b1.length 40)))) ++ ([7#8, 7#8, 7#8] : List Byte)) 0 ((([1#8, 2#8] : List Byte) ++ (seg b1 0 (min b1.length 40))).length)).length, cap33) : Option Addr × Nat × Nat)))] : List (Int × Int × Int × Int × (Option Addr × Nat × Nat)))]) (⟨some b5, 0, 1, fun _ => .int .i64 2, true⟩ :: ⟨some b5, 1, 1, fun _ => .int .i64 9, true⟩ :: ⟨some b5, 2, 1, fun _ => .map (some m5), true⟩ :: ⟨some b5, 3, 1, fun _ => .int .i64 3, true⟩ :: ⟨pb476, 0, cap476, fun q => VU .u8 (F476 q), true⟩ :: ⟨some b475, 0, 1, fun q => VU .u8 ((lit ([(BitVec.ofInt 8 (w64 (mark2 + 4)))] : List Byte)) q), true⟩ :: ⟨pb461, 0, cb461, fun q => VU .u8 (Fb461 q), true⟩ :: r476 :: ⟨some b293, 0, 1, fun _ => .int .i64 0, true⟩ :: ⟨some b293, 1, 1, fun _ => .int .i64 1, true⟩ :: ⟨some b293, 2, 1, fun _ => .int .i64 2, true⟩ :: ⟨some b293, 3, 1, fun _ => .slice a476 ((m462 ++ ([(BitVec.ofInt 8 (w64 (mark2 + 4)))] : List Byte)).length) cap476, true⟩ :: ⟨pb244, 0, cap244, fun q => VU .u8 (F244 q), true⟩ :: ⟨pb235, 0, cap235, fun q => VU .u8 (F235 q), true⟩ :: ⟨pb248, 0, cap248 * 1, F248, true⟩ :: ⟨pb225, 0, cap225, fun q => VU .u8 (F225 q), true⟩ :: r244 :: r235 :: r225 :: ⟨some b93, 0, 1, fun _ => .int .i64 mark2, true⟩ :: ⟨some b93, 1, 1, fun _ => .int .i64 1, true⟩ :: ⟨some b93, 2, 1, fun _ => .int .i64 2, true⟩ :: ⟨some b93, 3, 1, fun _ => .slice am125 ((seg ((([] : List Byte) ++ (([1#8, 2#8] : List Byte) ++ (seg b1 0 (min b1.length 40)))) ++ ([7#8, 7#8, 7#8] : List Byte)) 0 ((([1#8, 2#8] : List Byte) ++ (seg b1 0 (min b1.length 40))).length)).length) cm125, true⟩ :: ⟨some b93, 4, 1, fun _ => .int .i64 mark2, true⟩ :: ⟨some b93, 5, 1, fun _ => .int .i64 2, true⟩ :: ⟨some b93, 6, 1, fun _ => .int .i64 1, true⟩ :: ⟨some b93, 7, 1, fun _ => .slice am164 ((seg ((([] : List Byte) ++ (([1#8, 2#8] : List Byte) ++ (seg b1 0 (min b1.length 40)))) ++ ([7#8, 7#8, 7#8] : List Byte)) 0 ((([1#8, 2#8] : List Byte) ++ (seg b1 0 (min b1.length 40))).length)).length) cm164, true⟩ :: ⟨some b93, 8, 1, fun _ => .int .i64 mark2, true⟩ :: ⟨some b93, 9, 1, fun _ => .int .i64 1, true⟩ :: ⟨some b93, 10, 1, fun _ => .int .i64 2, true⟩ :: ⟨some b93, 11, 1, fun _ => .slice am203 ((seg ((([] : List Byte) ++ (([1#8, 2#8] : List Byte) ++ (seg b1 0 (min b1.length 40)))) ++ ([7#8, 7#8, 7#8] : List Byte)) 0 ((([1#8, 2#8] : List Byte) ++ (seg b1 0 (min b1.length 40))).length)).length) cm203, true⟩ :: ⟨pb37, 0, cap37, fun q => VU .u8 (F37 q), true⟩ :: ⟨pb33, 0, cap33, fun q => VU .u8 (F33 q), true⟩ :: L) w481 := h481
              refine ⟨_, rfl, .inl ⟨PIn.keep (by exact PIn.nil) h481, ?_⟩⟩
              refine Plan.move_tuple rfl rfl <| Plan.extract_agg rfl rfl rfl <| Plan.extract_int rfl rfl rfl ?_
              refine Plan.alloc h481 rfl FNetHands.z60 PIn.nil fun b482 w482 hb482 h482 => ?_
              simp only [rngs, Nat.zero_add, Nat.reduceAdd, zca, zna] at h482
              refine Plan.storeP (ps := [(1, fun _ => .int .i64 2), (1, fun _ => .int .i64 1), (1, fun _ => .int .i64 2), (1, fun _ => .slice a37 ((seg ((([] : List Byte) ++ (([1#8, 2#8] : List Byte) ++ (seg b1 0 (min b1.length 40)))) ++ ([7#8, 7#8, 7#8] : List Byte)) 0 ((([1#8, 2#8] : List Byte) ++ (seg b1 0 (min b1.length 40))).length)).length) cap37)]) h482 rfl rfl rfl (.cons 0 rfl (.cons 1 rfl (.cons 2 rfl (.cons 3 rfl .nil)))) ⟨fun _ _ => rfl, fun _ _ => rfl, fun _ _ => rfl, fun _ _ => rfl, trivial⟩ FNetHands.sz60 (EffO.keep PIn.nil) fun w483 h483 => ?_
              simp only [zca, zna, zsz, zss] at h483
              refine Plan.assign_int rfl rfl <| Plan.nil (k479 _ _ ?_); clear k479
              refine W.seq_k fun _ k484 => W.seq_k fun _ k498 => ?_
              refine W.regionT [(0, true), (1, true), (2, true), (3, true), (4, true), (5, true), (6, true), (7, true), (8, true), (9, true), (10, true), (11, true), (12, true), (13, true), (14, true), (15, true), (16, true), (17, true), (18, true), (19, true), (20, true), (21, true), (22, true), (23, true), (24, true), (25, true), (26, true), (27, true), (28, true), (29, true), (30, true), (31, true)] (by kernel_rfl) ?_
              refine Plan.move_int rfl rfl <| Plan.cmpP (a := (0 : Int)) (b := (0 : Int)) (p := (0 : Nat) ≠ 0) rfl rfl rfl rfl icmp_neN <| Plan.move_bool rfl rfl <| Plan.fieldAddr 3 FNetHands.fld60_3 rfl rfl <| Plan.load0 h483 3 rfl rfl rfl (by omega) FNetHands.sc23 ?_
              refine Plan.toStrV h483 (ho37.bx 35 rfl) FNetHands.slu23 FNetHands.u5 FNetHands.str9 rfl rfl fun r499 hr499 => ?_
              refine Plan.move_slice rfl rfl ?_
              refine Plan.toStrV h483 (hb461.bx 10 rfl) FNetHands.slu23 FNetHands.u5 FNetHands.str9 rfl rfl fun r500 hr500 => ?_
              by_cases hc501 : (seg ((([] : List Byte) ++ (([1#8, 2#8] : List Byte) ++ (seg b1 0 (min b1.length 40)))) ++ ([7#8, 7#8, 7#8] : List Byte)) 0 ((([1#8, 2#8] : List Byte) ++ (seg b1 0 (min b1.length 40))).length)) = b461
              ·
               replace hR := ifT hR hc501
               refine Plan.neStrV (v := true) rfl rfl rfl (decide_eq_true hc501) <| Plan.pickFb rfl rfl rfl <| Plan.move_bool rfl rfl <| Plan.fieldAddr 3 FNetHands.fld60_3 rfl rfl <| Plan.load0 h483 15 rfl rfl rfl (by omega) FNetHands.sc23 <| Plan.move_slice rfl rfl <| Plan.len FNetHands.isl23 rfl rfl ?_
               obtain ⟨hc502, hR⟩ := hR
               refine Plan.idxVS (j := (([1#8, 2#8] : List Byte) ++ (seg b1 0 (min b1.length 40))).length) h483 (ho476.bx 8 rfl) FNetHands.sl23 rfl rfl rfl hc502 ?_
               refine Plan.loadV (j := (([1#8, 2#8] : List Byte) ++ (seg b1 0 (min b1.length 40))).length) h483 (ho476.bx 8 rfl) rfl rfl hc502 FNetHands.sc5 fun r503 hr503 => ?_
               refine Plan.move_int rfl rfl <| Plan.addW (a := mark2) (b := 4) rfl rfl rfl <| Plan.convIU .u8 (a := (w64 (mark2 + 4))) FNetHands.u5 FNetHands.some3 rfl rfl ?_
               by_cases hc504 : (lit (m462 ++ ([(BitVec.ofInt 8 (w64 (mark2 + 4)))] : List Byte)) ((([1#8, 2#8] : List Byte) ++ (seg b1 0 (min b1.length 40))).length)) ≠ (BitVec.ofInt 8 (w64 (mark2 + 4)))
               ·
                replace hR := ifT hR hc504
                refine Plan.cmpV (a := ((lit (m462 ++ ([(BitVec.ofInt 8 (w64 (mark2 + 4)))] : List Byte)) ((([1#8, 2#8] : List Byte) ++ (seg b1 0 (min b1.length 40))).length)).toNat : Int)) (b := ((BitVec.ofInt 8 (w64 (mark2 + 4))).toNat : Int)) (p := (lit (m462 ++ ([(BitVec.ofInt 8 (w64 (mark2 + 4)))] : List Byte)) ((([1#8, 2#8] : List Byte) ++ (seg b1 0 (min b1.length 40))).length)) ≠ (BitVec.ofInt 8 (w64 (mark2 + 4)))) (v := true) rfl rfl rfl rfl icmp_neU (decide_eq_true hc504) <| Plan.pickFb rfl rfl rfl <| Plan.move_bool rfl rfl <| Plan.passed rfl <| Plan.passed rfl <| Plan.passed rfl <| Plan.passed rfl <| Plan.passed rfl ?_
                refine Plan.passed rfl <| Plan.passed rfl <| Plan.passed rfl <| Plan.pickTb rfl rfl rfl <| Plan.nil (k498 _ _ ?_); clear k498
                refine W.condT rfl ?_
                refine W.seq_k fun _ k505 => W.regionT [(0, true)] (by kernel_rfl) ?_
                refine Plan.assign_bool rfl rfl <| Plan.nil (k505 _ _ ?_); clear k505
                refine W.ret (thenR_ret (finR_ret ?_))
                have h506 := St.pickT (C := [_, _, _, _, _, _, _, _, _, _, _, _, _, _, _, _, _, _, _, _, _, _, _, _, _, _, _, _, _, _, _, _, _, _, _, _, _]) h483 [] (by decide)
                simp only [pick, zfc, zfn, zgz, zgs, zca, zna] at h506
                have h507 : St B w0 _ _ := St.mpick (N := [mapR kvI D60 [] m5 ([(1, (1, 2, 1, ((a33, (seg ((([] : List Byte) ++ (([1#8, 2#8] : List Byte) ++ (seg b1 0 (min b1.length 40)))) ++ ([7#8, 7#8, 7#8] : List Byte)) 0 ((([1#8, 2#8] : List Byte) ++ (seg b1 0 (min b1.length 40))).length)).length, cap33) : Option Addr × Nat × Nat)))] : List (Int × Int × Int × Int × (Option Addr × Nat × Nat)))]) (N' := []) h506 [] (by decide) rfl
                subst r
                refine RetOk.mk (.tmp_bool rfl .nil) ?_
                exact ⟨rfl, h507⟩
               ·
                replace hR := ifF hR hc504
                refine Plan.cmpV (a := ((lit (m462 ++ ([(BitVec.ofInt 8 (w64 (mark2 + 4)))] : List Byte)) ((([1#8, 2#8] : List Byte) ++ (seg b1 0 (min b1.length 40))).length)).toNat : Int)) (b := ((BitVec.ofInt 8 (w64 (mark2 + 4))).toNat : Int)) (p := (lit (m462 ++ ([(BitVec.ofInt 8 (w64 (mark2 + 4)))] : List Byte)) ((([1#8, 2#8] : List Byte) ++ (seg b1 0 (min b1.length 40))).length)) ≠ (BitVec.ofInt 8 (w64 (mark2 + 4)))) (v := false) rfl rfl rfl rfl icmp_neU (decide_eq_false hc504) <| Plan.pickFb rfl rfl rfl <| Plan.move_bool rfl rfl <| Plan.fieldAddr 3 FNetHands.fld60_3 rfl rfl <| Plan.load0 h483 15 rfl rfl rfl (by omega) FNetHands.sc23 ?_
                obtain ⟨hc508, hR⟩ := hR
                refine Plan.idxVS (j := 0) h483 (ho476.bx 8 rfl) FNetHands.sl23 rfl rfl rfl hc508 ?_
                refine Plan.loadV (j := 0) h483 (ho476.bx 8 rfl) rfl rfl hc508 FNetHands.sc5 fun r509 hr509 => ?_
                refine Plan.move_int rfl rfl <| Plan.addW (a := mark2) (b := 3) rfl rfl rfl <| Plan.convIU .u8 (a := (w64 (mark2 + 3))) FNetHands.u5 FNetHands.some3 rfl rfl <| Plan.cmpP (a := ((lit (m462 ++ ([(BitVec.ofInt 8 (w64 (mark2 + 4)))] : List Byte)) 0).toNat : Int)) (b := ((BitVec.ofInt 8 (w64 (mark2 + 3))).toNat : Int)) (p := (lit (m462 ++ ([(BitVec.ofInt 8 (w64 (mark2 + 4)))] : List Byte)) 0) ≠ (BitVec.ofInt 8 (w64 (mark2 + 3)))) rfl rfl rfl rfl icmp_neU <| Plan.pickFb rfl rfl rfl <| Plan.nil (k498 _ _ ?_); clear k498
                by_cases hc510 : (lit (m462 ++ ([(BitVec.ofInt 8 (w64 (mark2 + 4)))] : List Byte)) 0) ≠ (BitVec.ofInt 8 (w64 (mark2 + 3)))
                ·
                 replace hR := ifT hR hc510
                 refine W.condT (congrArg Value.bool (decide_eq_true hc510)) ?_
                 refine W.seq_k fun _ k511 => W.regionT [(0, true)] (by kernel_rfl) ?_
                 refine Plan.assign_bool rfl rfl <| Plan.nil (k511 _ _ ?_); clear k511
                 refine W.ret (thenR_ret (finR_ret ?_))
                 have h512 := St.pickT (C := [_, _, _, _, _, _, _, _, _, _, _, _, _, _, _, _, _, _, _, _, _, _, _, _, _, _, _, _, _, _, _, _, _, _, _, _, _]) h483 [] (by decide)
                 simp only [pick, zfc, zfn, zgz, zgs, zca, zna] at h512
                 have h513 : St B w0 _ _ := St.mpick (N := [mapR kvI D60 [] m5 ([(1, (1, 2, 1, ((a33, (seg ((([] : List Byte) ++ (([1#8, 2#8] : List Byte) ++ (seg b1 0 (min b1.length 40)))) ++ ([7#8, 7#8, 7#8] : List Byte)) 0 ((([1#8, 2#8] : List Byte) ++ (seg b1 0 (min b1.length 40))).length)).length, cap33) : Option Addr × Nat × Nat)))] : List (Int × Int × Int × Int × (Option Addr × Nat × Nat)))]) (N' := []) h512 [] (by decide) rfl
                 subst r
                 refine RetOk.mk (.tmp_bool rfl .nil) ?_
                 exact ⟨rfl, h513⟩
                ·
                 replace hR := ifF hR hc510
                 refine W.condF (congrArg Value.bool (decide_eq_false hc510)) ?_
                 refine W.skip ?_
                 refine k484 _ _ ?_; clear k484
                 refine W.seq_k fun _ k514 => W.seq_k fun _ k515 => ?_
                 refine W.regionT [(0, true)] (by kernel_rfl) ?_
                 refine Plan.assign_int rfl rfl <| Plan.nil (k515 _ _ ?_); clear k515
                 refine W.block ?_
                 refine W.unroll 9 (UL.next ?_)
                 refine W.seq_k fun _ k516 => W.seq_k fun _ k517 => ?_
                 refine W.regionT [(0, true), (1, true)] (by kernel_rfl) ?_
                 refine Plan.move_int rfl rfl <| Plan.cmpP (a := (0 : Int)) (b := (3 : Int)) (p := (0 : Nat) < 3) rfl rfl rfl rfl icmp_ltN <| Plan.nil (k517 _ _ ?_); clear k517
                 refine W.condT rfl ?_
                 refine W.skip ?_
                 refine k516 _ _ ?_; clear k516
                 refine W.seq_k fun _ k518 => ?_
                 refine W.block ?_
                 refine W.seq_k fun _ k519 => W.seq_k fun _ k520 => ?_
                 refine W.regionT [(0, true)] (by kernel_rfl) ?_
                 refine Plan.assign_int rfl rfl <| Plan.nil (k520 _ _ ?_); clear k520
                 obtain ⟨x542, hI542, hR0542⟩ := hR
                 refine W.cutN (fun e w => x542 = some () ∧ EnvHas e [(1, .int .i64 mark2), (16, .slice (some ⟨b93, 0, none⟩) 3 cap93), (19, .slice a248 ((((([] : List (Option Addr × Nat × Nat)) ++ ([((a225, (m125 ++ ([(BitVec.ofInt 8 (w64 (mark2 + 9)))] : List Byte)).length, cap225) : Option Addr × Nat × Nat)] : List (Option Addr × Nat × Nat))) ++ ([((a235, (m164 ++ ([(BitVec.ofInt 8 (w64 (mark2 + 9)))] : List Byte)).length, cap235) : Option Addr × Nat × Nat)] : List (Option Addr × Nat × Nat))) ++ ([((a244, (m203 ++ ([(BitVec.ofInt 8 (w64 (mark2 + 9)))] : List Byte)).length, cap244) : Option Addr × Nat × Nat)] : List (Option Addr × Nat × Nat))).length) cap248), (26, VN 0)] ∧ St B (w0.on [mapR kvI D60 [] m5 ([(1, (1, 2, 1, ((a33, (seg ((([] : List Byte) ++ (([1#8, 2#8] : List Byte) ++ (seg b1 0 (min b1.length 40)))) ++ ([7#8, 7#8, 7#8] : List Byte)) 0 ((([1#8, 2#8] : List Byte) ++ (seg b1 0 (min b1.length 40))).length)).length, cap33) : Option Addr × Nat × Nat)))] : List (Int × Int × Int × Int × (Option Addr × Nat × Nat)))]) (⟨pb244, 0, cap244, fun q => VU .u8 (F244 q), true⟩ :: ⟨pb235, 0, cap235, fun q => VU .u8 (F235 q), true⟩ :: ⟨pb248, 0, cap248 * 1, F248, true⟩ :: ⟨pb225, 0, cap225, fun q => VU .u8 (F225 q), true⟩ :: r244 :: r235 :: r225 :: ⟨some b93, 0, 1, fun _ => .int .i64 mark2, true⟩ :: ⟨some b93, 1, 1, fun _ => .int .i64 1, true⟩ :: ⟨some b93, 2, 1, fun _ => .int .i64 2, true⟩ :: ⟨some b93, 3, 1, fun _ => .slice am125 ((seg ((([] : List Byte) ++ (([1#8, 2#8] : List Byte) ++ (seg b1 0 (min b1.length 40)))) ++ ([7#8, 7#8, 7#8] : List Byte)) 0 ((([1#8, 2#8] : List Byte) ++ (seg b1 0 (min b1.length 40))).length)).length) cm125, true⟩ :: ⟨some b93, 4, 1, fun _ => .int .i64 mark2, true⟩ :: ⟨some b93, 5, 1, fun _ => .int .i64 2, true⟩ :: ⟨some b93, 6, 1, fun _ => .int .i64 1, true⟩ :: ⟨some b93, 7, 1, fun _ => .slice am164 ((seg ((([] : List Byte) ++ (([1#8, 2#8] : List Byte) ++ (seg b1 0 (min b1.length 40)))) ++ ([7#8, 7#8, 7#8] : List Byte)) 0 ((([1#8, 2#8] : List Byte) ++ (seg b1 0 (min b1.length 40))).length)).length) cm164, true⟩ :: ⟨some b93, 8, 1, fun _ => .int .i64 mark2, true⟩ :: ⟨some b93, 9, 1, fun _ => .int .i64 1, true⟩ :: ⟨some b93, 10, 1, fun _ => .int .i64 2, true⟩ :: ⟨some b93, 11, 1, fun _ => .slice am203 ((seg ((([] : List Byte) ++ (([1#8, 2#8] : List Byte) ++ (seg b1 0 (min b1.length 40)))) ++ ([7#8, 7#8, 7#8] : List Byte)) 0 ((([1#8, 2#8] : List Byte) ++ (seg b1 0 (min b1.length 40))).length)).length) cm203, true⟩ :: ⟨pb33, 0, cap33, fun q => VU .u8 (F33 q), true⟩ :: L) w) ?_ ?_
                 ·
                  refine W.block ?_
                  have h543 := St.pickT (C := [_, _, _, _, _, _, _, _, _, _, _, _, _, _, _, _, _, _, _, _, _, _, _, _, _, _, _, _, _, _, _, _, _, _, _, _, _]) h483 [16, 17, 18, 19, 20, 21, 22, 23, 24, 25, 26, 27, 28, 29, 30, 31, 32, 33, 34, 36] (by decide)
                  simp only [pick, zfc, zfn, zgz, zgs, zca, zna] at h543
                  refine W.iter hI542 (fun (s542 : Nat) e w => EnvHas e [(1, .int .i64 mark2), (16, .slice (some ⟨b93, 0, none⟩) 3 cap93), (19, .slice a248 ((((([] : List (Option Addr × Nat × Nat)) ++ ([((a225, (m125 ++ ([(BitVec.ofInt 8 (w64 (mark2 + 9)))] : List Byte)).length, cap225) : Option Addr × Nat × Nat)] : List (Option Addr × Nat × Nat))) ++ ([((a235, (m164 ++ ([(BitVec.ofInt 8 (w64 (mark2 + 9)))] : List Byte)).length, cap235) : Option Addr × Nat × Nat)] : List (Option Addr × Nat × Nat))) ++ ([((a244, (m203 ++ ([(BitVec.ofInt 8 (w64 (mark2 + 9)))] : List Byte)).length, cap244) : Option Addr × Nat × Nat)] : List (Option Addr × Nat × Nat))).length) cap248), (26, VN 0), (27, VN s542)] ∧ St B (w0.on [mapR kvI D60 [] m5 ([(1, (1, 2, 1, ((a33, (seg ((([] : List Byte) ++ (([1#8, 2#8] : List Byte) ++ (seg b1 0 (min b1.length 40)))) ++ ([7#8, 7#8, 7#8] : List Byte)) 0 ((([1#8, 2#8] : List Byte) ++ (seg b1 0 (min b1.length 40))).length)).length, cap33) : Option Addr × Nat × Nat)))] : List (Int × Int × Int × Int × (Option Addr × Nat × Nat)))]) (⟨pb244, 0, cap244, fun q => VU .u8 (F244 q), true⟩ :: ⟨pb235, 0, cap235, fun q => VU .u8 (F235 q), true⟩ :: ⟨pb248, 0, cap248 * 1, F248, true⟩ :: ⟨pb225, 0, cap225, fun q => VU .u8 (F225 q), true⟩ :: r244 :: r235 :: r225 :: ⟨some b93, 0, 1, fun _ => .int .i64 mark2, true⟩ :: ⟨some b93, 1, 1, fun _ => .int .i64 1, true⟩ :: ⟨some b93, 2, 1, fun _ => .int .i64 2, true⟩ :: ⟨some b93, 3, 1, fun _ => .slice am125 ((seg ((([] : List Byte) ++ (([1#8, 2#8] : List Byte) ++ (seg b1 0 (min b1.length 40)))) ++ ([7#8, 7#8, 7#8] : List Byte)) 0 ((([1#8, 2#8] : List Byte) ++ (seg b1 0 (min b1.length 40))).length)).length) cm125, true⟩ :: ⟨some b93, 4, 1, fun _ => .int .i64 mark2, true⟩ :: ⟨some b93, 5, 1, fun _ => .int .i64 2, true⟩ :: ⟨some b93, 6, 1, fun _ => .int .i64 1, true⟩ :: ⟨some b93, 7, 1, fun _ => .slice am164 ((seg ((([] : List Byte) ++ (([1#8, 2#8] : List Byte) ++ (seg b1 0 (min b1.length 40)))) ++ ([7#8, 7#8, 7#8] : List Byte)) 0 ((([1#8, 2#8] : List Byte) ++ (seg b1 0 (min b1.length 40))).length)).length) cm164, true⟩ :: ⟨some b93, 8, 1, fun _ => .int .i64 mark2, true⟩ :: ⟨some b93, 9, 1, fun _ => .int .i64 1, true⟩ :: ⟨some b93, 10, 1, fun _ => .int .i64 2, true⟩ :: ⟨some b93, 11, 1, fun _ => .slice am203 ((seg ((([] : List Byte) ++ (([1#8, 2#8] : List Byte) ++ (seg b1 0 (min b1.length 40)))) ++ ([7#8, 7#8, 7#8] : List Byte)) 0 ((([1#8, 2#8] : List Byte) ++ (seg b1 0 (min b1.length 40))).length)).length) cm203, true⟩ :: ⟨pb33, 0, cap33, fun q => VU .u8 (F33 q), true⟩ :: L) w) ⟨(zer (zer (zer (zer (zer zen))))), h543⟩ ?_
                  rintro i_541 o542 hR hx542 ev544 wl544 ⟨he544, h544⟩
                  obtain ⟨ev544, rfl⟩ := he544.open
                  unfold lethelaw23_NetHands_l5 at hR
                  refine W.seq_k fun _ k545 => W.seq_k fun _ k546 => ?_
                  refine W.regionT [(0, true), (1, true), (2, true), (3, true), (4, true), (5, true), (6, true), (7, true)] (by kernel_rfl) ?_
                  refine Plan.move_int rfl rfl <| Plan.move_slice rfl rfl <| Plan.move_int rfl rfl <| Plan.idxSlO (j := 0) (o' := 0) FNetHands.sl57 rfl rfl rfl (by omega) rfl <| Plan.fieldAddr 3 FNetHands.fld60_3 rfl rfl <| Plan.load0 h544 10 rfl rfl rfl (by omega) FNetHands.sc23 <| Plan.len FNetHands.isl23 rfl rfl <| Plan.cmpP (a := (((i_541 : Nat) : Int) : Int)) (b := ((((seg ((([] : List Byte) ++ (([1#8, 2#8] : List Byte) ++ (seg b1 0 (min b1.length 40)))) ++ ([7#8, 7#8, 7#8] : List Byte)) 0 ((([1#8, 2#8] : List Byte) ++ (seg b1 0 (min b1.length 40))).length)).length : Nat) : Int) : Int)) (p := i_541 < (seg ((([] : List Byte) ++ (([1#8, 2#8] : List Byte) ++ (seg b1 0 (min b1.length 40)))) ++ ([7#8, 7#8, 7#8] : List Byte)) 0 ((([1#8, 2#8] : List Byte) ++ (seg b1 0 (min b1.length 40))).length)).length) rfl rfl rfl rfl icmp_ltN ?_
                  refine Plan.nil (k546 _ _ ?_); clear k546
                  by_cases hc547 : i_541 < (seg ((([] : List Byte) ++ (([1#8, 2#8] : List Byte) ++ (seg b1 0 (min b1.length 40)))) ++ ([7#8, 7#8, 7#8] : List Byte)) 0 ((([1#8, 2#8] : List Byte) ++ (seg b1 0 (min b1.length 40))).length)).length
                  ·
                   replace hR := ifT hR hc547
                   refine W.condT (congrArg Value.bool (decide_eq_true hc547)) ?_
                   refine W.skip ?_
                   refine k545 _ _ ?_; clear k545
                   refine W.seq_k fun _ k548 => ?_
                   refine W.block ?_
                   refine W.seq_k fun _ k549 => W.regionT [(0, true), (1, true), (2, true), (3, true), (4, true), (5, true), (6, true), (7, true), (8, true), (9, true), (10, true), (11, true), (12, true)] (by kernel_rfl) ?_
                   refine Plan.move_slice rfl rfl <| Plan.move_int rfl rfl <| Plan.idxSlO (j := 0) (o' := 0) FNetHands.sl57 rfl rfl rfl (by omega) rfl <| Plan.fieldAddr 3 FNetHands.fld60_3 rfl rfl <| Plan.load0 h544 10 rfl rfl rfl (by omega) FNetHands.sc23 <| Plan.move_int rfl rfl ?_
                   obtain ⟨hc550, hR⟩ := hR
                   refine Plan.idxVS (j := i_541) h544 (Bx.two (L' := [_, _, _, _, _, _, _, _, _, _, _, _, _, _, _, _, _, _, _, _] ++ _) (j1 := 3) (j2 := 6) hv225 hi225 rfl rfl rfl rfl) FNetHands.sl23 rfl rfl rfl hc550 ?_
                   refine Plan.loadV (j := i_541) h544 (Bx.two (L' := [_, _, _, _, _, _, _, _, _, _, _, _, _, _, _, _, _, _, _, _] ++ _) (j1 := 3) (j2 := 6) hv225 hi225 rfl rfl rfl rfl) rfl rfl hc550 FNetHands.sc5 fun r551 hr551 => ?_
                   refine Plan.move_int rfl rfl <| Plan.move_int rfl rfl <| Plan.addW (a := mark2) (b := 0) rfl rfl rfl <| Plan.convIU .u8 (a := (w64 (mark2 + 0))) FNetHands.u5 FNetHands.some3 rfl rfl <| Plan.cmpP (a := ((lit m125 i_541).toNat : Int)) (b := ((BitVec.ofInt 8 (w64 (mark2 + 0))).toNat : Int)) (p := (lit m125 i_541) ≠ (BitVec.ofInt 8 (w64 (mark2 + 0)))) rfl rfl rfl rfl icmp_neU <| Plan.nil (k549 _ _ ?_); clear k549
                   by_cases hc552 : (lit m125 i_541) ≠ (BitVec.ofInt 8 (w64 (mark2 + 0)))
                   ·
                    replace hR := ifT hR hc552
                    refine W.condT (congrArg Value.bool (decide_eq_true hc552)) ?_
                    refine W.seq_k fun _ k553 => W.regionT [(0, true)] (by kernel_rfl) ?_
                    refine Plan.assign_bool rfl rfl <| Plan.nil (k553 _ _ ?_); clear k553
                    refine W.ret (blockR_ret (thenR_ret (iterR_ret (blockR_ret (thenR_ret (thenR_ret (blockR_ret (thenR_ret (thenR_ret (blockR_ret (thenR_ret (finR_ret ?_))))))))))))
                    have h554 := St.pickT (C := [_, _, _, _, _, _, _, _, _, _, _, _, _, _, _, _, _, _, _, _]) h544 [] (by decide)
                    simp only [pick, zfc, zfn, zgz, zgs, zca, zna] at h554
                    have h555 : St B w0 _ _ := St.mpick (N := [mapR kvI D60 [] m5 ([(1, (1, 2, 1, ((a33, (seg ((([] : List Byte) ++ (([1#8, 2#8] : List Byte) ++ (seg b1 0 (min b1.length 40)))) ++ ([7#8, 7#8, 7#8] : List Byte)) 0 ((([1#8, 2#8] : List Byte) ++ (seg b1 0 (min b1.length 40))).length)).length, cap33) : Option Addr × Nat × Nat)))] : List (Int × Int × Int × Int × (Option Addr × Nat × Nat)))]) (N' := []) h554 [] (by decide) rfl
                    replace hR := hR.2
                    subst r
                    refine RetOk.mk (.tmp_bool rfl .nil) ?_
                    exact ⟨rfl, h555⟩
                   ·
                    replace hR := ifF hR hc552
                    refine W.condF (congrArg Value.bool (decide_eq_false hc552)) ?_
                    refine W.skip ?_
                    refine blockR_norm ?_
                    refine k548 _ _ ?_; clear k548
                    refine W.regionT [(0, true), (1, true), (2, true)] (by kernel_rfl) ?_
                    refine Plan.move_int rfl rfl ?_
                    obtain ⟨hc556, hR⟩ := hR
                    refine Plan.addN (a := i_541) (b := 1) rfl rfl rfl (by omega) <| Plan.assign_int rfl rfl <| Plan.nil ?_
                    exact iterR_norm ⟨_, hR, (zer (zer (zer (zer (zer zen))))), h544⟩
                  ·
                   replace hR := ifF hR hc547
                   refine W.condF (congrArg Value.bool (decide_eq_false hc547)) ?_
                   refine W.exit (thenR_exit (iterR_exit (blockR_here ?_)))
                   exact ⟨(hx542 _ hR).symm, (zer (zer (zer (zer zen)))), h544⟩
                 ·
                  rintro ev557 wl557 ⟨hy557, he557, h557⟩
                  obtain ⟨ev557, rfl⟩ := he557.open
                  replace hR := hR0542  hy557
                  refine k519 _ _ ?_; clear k519
                  refine W.seq_k fun _ k558 => ?_
                  refine W.regionD FNetHands.mixed [(0, true), (1, true), (2, true), (3, true), (4, true), (5, true), (6, true), (7, true), (8, true), (9, true), (10, true), (11, true), (12, true), (13, true), (14, true), (15, true), (16, true), (17, true), (18, true), (19, true), (20, true), (21, true), (22, true), (23, true), (24, true)] (by kernel_rfl) ?_
                  have h559 := h557.drew
                  refine Plan.move_slice rfl rfl <| Plan.move_int rfl rfl <| Plan.idxSlO (j := 0) (o' := 0) FNetHands.sl57 rfl rfl rfl (by omega) rfl <| Plan.fieldAddr0 FNetHands.fld60_0 rfl rfl <| Plan.load0 h559 7 rfl rfl rfl (by omega) FNetHands.sc3 <| Plan.move_int rfl rfl ?_
                  by_cases hc560 : mark2 ≠ mark2
                  ·
                   replace hR := ifT hR hc560
                   refine Plan.cmpV (a := (mark2 : Int)) (b := (mark2 : Int)) (p := mark2 ≠ mark2) (v := true) rfl rfl rfl rfl icmp_ne (decide_eq_true hc560) <| Plan.move_bool rfl rfl <| Plan.passed rfl <| Plan.passed rfl <| Plan.passed rfl <| Plan.passed rfl <| Plan.passed rfl <| Plan.passed rfl ?_
                   refine Plan.passed rfl <| Plan.passed rfl <| Plan.passed rfl <| Plan.passed rfl <| Plan.passed rfl <| Plan.passed rfl <| Plan.passed rfl <| Plan.passed rfl ?_
                   refine Plan.passed rfl <| Plan.passed rfl <| Plan.pickTb rfl rfl rfl <| Plan.nil (k558 _ _ ?_); clear k558
                   refine W.condT rfl ?_
                   refine W.seq_k fun _ k561 => W.regionT [(0, true)] (by kernel_rfl) ?_
                   refine Plan.assign_bool rfl rfl <| Plan.nil (k561 _ _ ?_); clear k561
                   refine W.ret (blockR_ret (thenR_ret (thenR_ret (blockR_ret (thenR_ret (finR_ret ?_))))))
                   have h562 := St.pickT (C := [_, _, _, _, _, _, _, _, _, _, _, _, _, _, _, _, _, _, _, _]) h559 [] (by decide)
                   simp only [pick, zfc, zfn, zgz, zgs, zca, zna] at h562
                   have h563 : St B w0 _ _ := St.mpick (N := [mapR kvI D60 [] m5 ([(1, (1, 2, 1, ((a33, (seg ((([] : List Byte) ++ (([1#8, 2#8] : List Byte) ++ (seg b1 0 (min b1.length 40)))) ++ ([7#8, 7#8, 7#8] : List Byte)) 0 ((([1#8, 2#8] : List Byte) ++ (seg b1 0 (min b1.length 40))).length)).length, cap33) : Option Addr × Nat × Nat)))] : List (Int × Int × Int × Int × (Option Addr × Nat × Nat)))]) (N' := []) h562 [] (by decide) rfl
                   subst r
                   refine RetOk.mk (.tmp_bool rfl .nil) ?_
                   exact ⟨rfl, h563⟩
                  ·
                   replace hR := ifF hR hc560
                   refine Plan.cmpV (a := (mark2 : Int)) (b := (mark2 : Int)) (p := mark2 ≠ mark2) (v := false) rfl rfl rfl rfl icmp_ne (decide_eq_false hc560) <| Plan.move_bool rfl rfl <| Plan.move_slice rfl rfl <| Plan.move_int rfl rfl <| Plan.idxLVS (D := D23) (j := 0) h559 (LO.lvf D23_flat ho248 2 rfl) FNetHands.sl61 rfl rfl rfl (show 0 < 3 by decide) ?_
                   refine Plan.loadLV1 (D := D23) (X := (((([] : List (Option Addr × Nat × Nat)) ++ ([((a225, (m125 ++ ([(BitVec.ofInt 8 (w64 (mark2 + 9)))] : List Byte)).length, cap225) : Option Addr × Nat × Nat)] : List (Option Addr × Nat × Nat))) ++ ([((a235, (m164 ++ ([(BitVec.ofInt 8 (w64 (mark2 + 9)))] : List Byte)).length, cap235) : Option Addr × Nat × Nat)] : List (Option Addr × Nat × Nat))) ++ ([((a244, (m203 ++ ([(BitVec.ofInt 8 (w64 (mark2 + 9)))] : List Byte)).length, cap244) : Option Addr × Nat × Nat)] : List (Option Addr × Nat × Nat)))) (j := 0) h559 ((none, 0, 0) : Option Addr × Nat × Nat) (fun _ x => .slice x.1 x.2.1 x.2.2) (LO.lvf D23_flat ho248 2 rfl) rfl rfl (show 0 < 3 by decide) rfl (fun _ _ => rfl) FNetHands.sc23 fun b564 r564 hs564 hr564 => ?_
                   refine Plan.move_slice rfl rfl <| Plan.move_int rfl rfl <| Plan.idxLVS (D := D23) (j := 0) h559 (LO.lvf D23_flat ho248 2 rfl) FNetHands.sl61 rfl rfl rfl (show 0 < 3 by decide) ?_
                   refine Plan.loadLV1 (D := D23) (X := (((([] : List (Option Addr × Nat × Nat)) ++ ([((a225, (m125 ++ ([(BitVec.ofInt 8 (w64 (mark2 + 9)))] : List Byte)).length, cap225) : Option Addr × Nat × Nat)] : List (Option Addr × Nat × Nat))) ++ ([((a235, (m164 ++ ([(BitVec.ofInt 8 (w64 (mark2 + 9)))] : List Byte)).length, cap235) : Option Addr × Nat × Nat)] : List (Option Addr × Nat × Nat))) ++ ([((a244, (m203 ++ ([(BitVec.ofInt 8 (w64 (mark2 + 9)))] : List Byte)).length, cap244) : Option Addr × Nat × Nat)] : List (Option Addr × Nat × Nat)))) (j := 0) h559 ((none, 0, 0) : Option Addr × Nat × Nat) (fun _ x => .slice x.1 x.2.1 x.2.2) (LO.lvf D23_flat ho248 2 rfl) rfl rfl (show 0 < 3 by decide) rfl (fun _ _ => rfl) FNetHands.sc23 fun b565 r565 hs565 hr565 => ?_
                   refine Plan.len FNetHands.isl23 rfl rfl ?_
                   obtain ⟨hc566, hR⟩ := hR
                   refine Plan.subI (a := (((m125 ++ ([(BitVec.ofInt 8 (w64 (mark2 + 9)))] : List Byte)).length : Nat) : Int)) (b := 1) rfl rfl rfl (by omega) ?_
                   obtain ⟨hc567, hR⟩ := hR
                   refine Plan.idxVS (j := ((((m125 ++ ([(BitVec.ofInt 8 (w64 (mark2 + 9)))] : List Byte)).length : Nat) : Int) - 1).toNat) h559 (ho225.bx 3 rfl) FNetHands.sl23 rfl rfl (congrArg (Value.int .i64) (Int.toNat_of_nonneg hc567.1).symm) (toNat_lt hc567.1 hc567.2) ?_
                   refine Plan.loadV (j := ((((m125 ++ ([(BitVec.ofInt 8 (w64 (mark2 + 9)))] : List Byte)).length : Nat) : Int) - 1).toNat) h559 (ho225.bx 3 rfl) rfl rfl (toNat_lt hc567.1 hc567.2) FNetHands.sc5 fun r568 hr568 => ?_
                   refine Plan.move_int rfl rfl <| Plan.addW (a := mark2) (b := 9) rfl rfl rfl <| Plan.convIU .u8 (a := (w64 (mark2 + 9))) FNetHands.u5 FNetHands.some3 rfl rfl <| Plan.cmpP (a := ((lit (m125 ++ ([(BitVec.ofInt 8 (w64 (mark2 + 9)))] : List Byte)) (((((m125 ++ ([(BitVec.ofInt 8 (w64 (mark2 + 9)))] : List Byte)).length : Nat) : Int) - 1).toNat)).toNat : Int)) (b := ((BitVec.ofInt 8 (w64 (mark2 + 9))).toNat : Int)) (p := (lit (m125 ++ ([(BitVec.ofInt 8 (w64 (mark2 + 9)))] : List Byte)) (((((m125 ++ ([(BitVec.ofInt 8 (w64 (mark2 + 9)))] : List Byte)).length : Nat) : Int) - 1).toNat)) ≠ (BitVec.ofInt 8 (w64 (mark2 + 9)))) rfl rfl rfl rfl icmp_neU <| Plan.pickFb rfl rfl rfl <| Plan.nil (k558 _ _ ?_); clear k558
                   by_cases hc569 : (lit (m125 ++ ([(BitVec.ofInt 8 (w64 (mark2 + 9)))] : List Byte)) (((((m125 ++ ([(BitVec.ofInt 8 (w64 (mark2 + 9)))] : List Byte)).length : Nat) : Int) - 1).toNat)) ≠ (BitVec.ofInt 8 (w64 (mark2 + 9)))
                   ·
                    replace hR := ifT hR hc569
                    refine W.condT (congrArg Value.bool (decide_eq_true hc569)) ?_
                    refine W.seq_k fun _ k570 => W.regionT [(0, true)] (by kernel_rfl) ?_
                    refine Plan.assign_bool rfl rfl <| Plan.nil (k570 _ _ ?_); clear k570
                    refine W.ret (blockR_ret (thenR_ret (thenR_ret (blockR_ret (thenR_ret (finR_ret ?_))))))
                    have h571 := St.pickT (C := [_, _, _, _, _, _, _, _, _, _, _, _, _, _, _, _, _, _, _, _]) h559 [] (by decide)
                    simp only [pick, zfc, zfn, zgz, zgs, zca, zna] at h571
                    have h572 : St B w0 _ _ := St.mpick (N := [mapR kvI D60 [] m5 ([(1, (1, 2, 1, ((a33, (seg ((([] : List Byte) ++ (([1#8, 2#8] : List Byte) ++ (seg b1 0 (min b1.length 40)))) ++ ([7#8, 7#8, 7#8] : List Byte)) 0 ((([1#8, 2#8] : List Byte) ++ (seg b1 0 (min b1.length 40))).length)).length, cap33) : Option Addr × Nat × Nat)))] : List (Int × Int × Int × Int × (Option Addr × Nat × Nat)))]) (N' := []) h571 [] (by decide) rfl
                    subst r
                    refine RetOk.mk (.tmp_bool rfl .nil) ?_
                    exact ⟨rfl, h572⟩
                   ·
                    replace hR := ifF hR hc569
                    refine W.condF (congrArg Value.bool (decide_eq_false hc569)) ?_
                    refine W.skip ?_
                    refine blockR_norm ?_
                    refine k518 _ _ ?_; clear k518
                    refine W.regionT [(0, true), (1, true), (2, true)] (by kernel_rfl) ?_
                    refine Plan.move_int rfl rfl <| Plan.addN (a := 0) (b := 1) rfl rfl rfl (by omega) <| Plan.assign_int rfl rfl <| Plan.nil ?_
                    refine UL.nextT ?_
                    refine W.seq_k fun _ k573 => W.seq_k fun _ k574 => ?_
                    refine W.regionT [(0, true), (1, true)] (by kernel_rfl) ?_
                    refine Plan.move_int rfl rfl <| Plan.cmpP (a := (1 : Int)) (b := (3 : Int)) (p := (1 : Nat) < 3) rfl rfl rfl rfl icmp_ltN <| Plan.nil (k574 _ _ ?_); clear k574
                    refine W.condT rfl ?_
                    refine W.skip ?_
                    refine k573 _ _ ?_; clear k573
                    refine W.seq_k fun _ k575 => ?_
                    refine W.block ?_
                    refine W.seq_k fun _ k576 => W.seq_k fun _ k577 => ?_
                    refine W.regionT [(0, true)] (by kernel_rfl) ?_
                    refine Plan.assign_int rfl rfl <| Plan.nil (k577 _ _ ?_); clear k577
                    obtain ⟨x599, hI599, hR0599⟩ := hR
                    refine W.cutN (fun e w => x599 = some () ∧ EnvHas e [(1, .int .i64 mark2), (16, .slice (some ⟨b93, 0, none⟩) 3 cap93), (19, .slice a248 ((((([] : List (Option Addr × Nat × Nat)) ++ ([((a225, (m125 ++ ([(BitVec.ofInt 8 (w64 (mark2 + 9)))] : List Byte)).length, cap225) : Option Addr × Nat × Nat)] : List (Option Addr × Nat × Nat))) ++ ([((a235, (m164 ++ ([(BitVec.ofInt 8 (w64 (mark2 + 9)))] : List Byte)).length, cap235) : Option Addr × Nat × Nat)] : List (Option Addr × Nat × Nat))) ++ ([((a244, (m203 ++ ([(BitVec.ofInt 8 (w64 (mark2 + 9)))] : List Byte)).length, cap244) : Option Addr × Nat × Nat)] : List (Option Addr × Nat × Nat))).length) cap248), (26, VN 1), (288, .slice a248 ((((([] : List (Option Addr × Nat × Nat)) ++ ([((a225, (m125 ++ ([(BitVec.ofInt 8 (w64 (mark2 + 9)))] : List Byte)).length, cap225) : Option Addr × Nat × Nat)] : List (Option Addr × Nat × Nat))) ++ ([((a235, (m164 ++ ([(BitVec.ofInt 8 (w64 (mark2 + 9)))] : List Byte)).length, cap235) : Option Addr × Nat × Nat)] : List (Option Addr × Nat × Nat))) ++ ([((a244, (m203 ++ ([(BitVec.ofInt 8 (w64 (mark2 + 9)))] : List Byte)).length, cap244) : Option Addr × Nat × Nat)] : List (Option Addr × Nat × Nat))).length) cap248), (289, VN 0), (290, .pointer (a248.map fun z => ⟨z.block, z.off + 0 * 1, none⟩)), (291, .slice a225 ((m125 ++ ([(BitVec.ofInt 8 (w64 (mark2 + 9)))] : List Byte)).length) cap225), (292, .slice a248 ((((([] : List (Option Addr × Nat × Nat)) ++ ([((a225, (m125 ++ ([(BitVec.ofInt 8 (w64 (mark2 + 9)))] : List Byte)).length, cap225) : Option Addr × Nat × Nat)] : List (Option Addr × Nat × Nat))) ++ ([((a235, (m164 ++ ([(BitVec.ofInt 8 (w64 (mark2 + 9)))] : List Byte)).length, cap235) : Option Addr × Nat × Nat)] : List (Option Addr × Nat × Nat))) ++ ([((a244, (m203 ++ ([(BitVec.ofInt 8 (w64 (mark2 + 9)))] : List Byte)).length, cap244) : Option Addr × Nat × Nat)] : List (Option Addr × Nat × Nat))).length) cap248), (293, VN 0), (294, .pointer (a248.map fun z => ⟨z.block, z.off + 0 * 1, none⟩)), (295, .slice a225 ((m125 ++ ([(BitVec.ofInt 8 (w64 (mark2 + 9)))] : List Byte)).length) cap225), (296, VN ((m125 ++ ([(BitVec.ofInt 8 (w64 (mark2 + 9)))] : List Byte)).length)), (297, .int .i64 ((((m125 ++ ([(BitVec.ofInt 8 (w64 (mark2 + 9)))] : List Byte)).length : Nat) : Int) - 1)), (298, .pointer (a225.map fun z => ⟨z.block, z.off + (((((m125 ++ ([(BitVec.ofInt 8 (w64 (mark2 + 9)))] : List Byte)).length : Nat) : Int) - 1).toNat), none⟩)), (299, VU .u8 (lit (m125 ++ ([(BitVec.ofInt 8 (w64 (mark2 + 9)))] : List Byte)) (((((m125 ++ ([(BitVec.ofInt 8 (w64 (mark2 + 9)))] : List Byte)).length : Nat) : Int) - 1).toNat))), (300, .int .i64 mark2), (301, .int .i64 (w64 (mark2 + 9))), (302, VU .u8 (BitVec.ofInt 8 (w64 (mark2 + 9)))), (303, .bool (decide ((lit (m125 ++ ([(BitVec.ofInt 8 (w64 (mark2 + 9)))] : List Byte)) (((((m125 ++ ([(BitVec.ofInt 8 (w64 (mark2 + 9)))] : List Byte)).length : Nat) : Int) - 1).toNat)) ≠ (BitVec.ofInt 8 (w64 (mark2 + 9))))))] ∧ St B (w0.on [mapR kvI D60 [] m5 ([(1, (1, 2, 1, ((a33, (seg ((([] : List Byte) ++ (([1#8, 2#8] : List Byte) ++ (seg b1 0 (min b1.length 40)))) ++ ([7#8, 7#8, 7#8] : List Byte)) 0 ((([1#8, 2#8] : List Byte) ++ (seg b1 0 (min b1.length 40))).length)).length, cap33) : Option Addr × Nat × Nat)))] : List (Int × Int × Int × Int × (Option Addr × Nat × Nat)))]) (⟨pb244, 0, cap244, fun q => VU .u8 (F244 q), true⟩ :: ⟨pb235, 0, cap235, fun q => VU .u8 (F235 q), true⟩ :: ⟨pb248, 0, cap248 * 1, F248, true⟩ :: ⟨pb225, 0, cap225, fun q => VU .u8 (F225 q), true⟩ :: r244 :: r235 :: r225 :: ⟨some b93, 0, 1, fun _ => .int .i64 mark2, true⟩ :: ⟨some b93, 1, 1, fun _ => .int .i64 1, true⟩ :: ⟨some b93, 2, 1, fun _ => .int .i64 2, true⟩ :: ⟨some b93, 3, 1, fun _ => .slice am125 ((seg ((([] : List Byte) ++ (([1#8, 2#8] : List Byte) ++ (seg b1 0 (min b1.length 40)))) ++ ([7#8, 7#8, 7#8] : List Byte)) 0 ((([1#8, 2#8] : List Byte) ++ (seg b1 0 (min b1.length 40))).length)).length) cm125, true⟩ :: ⟨some b93, 4, 1, fun _ => .int .i64 mark2, true⟩ :: ⟨some b93, 5, 1, fun _ => .int .i64 2, true⟩ :: ⟨some b93, 6, 1, fun _ => .int .i64 1, true⟩ :: ⟨some b93, 7, 1, fun _ => .slice am164 ((seg ((([] : List Byte) ++ (([1#8, 2#8] : List Byte) ++ (seg b1 0 (min b1.length 40)))) ++ ([7#8, 7#8, 7#8] : List Byte)) 0 ((([1#8, 2#8] : List Byte) ++ (seg b1 0 (min b1.length 40))).length)).length) cm164, true⟩ :: ⟨some b93, 8, 1, fun _ => .int .i64 mark2, true⟩ :: ⟨some b93, 9, 1, fun _ => .int .i64 1, true⟩ :: ⟨some b93, 10, 1, fun _ => .int .i64 2, true⟩ :: ⟨some b93, 11, 1, fun _ => .slice am203 ((seg ((([] : List Byte) ++ (([1#8, 2#8] : List Byte) ++ (seg b1 0 (min b1.length 40)))) ++ ([7#8, 7#8, 7#8] : List Byte)) 0 ((([1#8, 2#8] : List Byte) ++ (seg b1 0 (min b1.length 40))).length)).length) cm203, true⟩ :: ⟨pb33, 0, cap33, fun q => VU .u8 (F33 q), true⟩ :: L) w) ?_ ?_
                    ·
                     refine W.block ?_
                     refine W.iter hI599 (fun (s599 : Nat) e w => EnvHas e [(1, .int .i64 mark2), (16, .slice (some ⟨b93, 0, none⟩) 3 cap93), (19, .slice a248 ((((([] : List (Option Addr × Nat × Nat)) ++ ([((a225, (m125 ++ ([(BitVec.ofInt 8 (w64 (mark2 + 9)))] : List Byte)).length, cap225) : Option Addr × Nat × Nat)] : List (Option Addr × Nat × Nat))) ++ ([((a235, (m164 ++ ([(BitVec.ofInt 8 (w64 (mark2 + 9)))] : List Byte)).length, cap235) : Option Addr × Nat × Nat)] : List (Option Addr × Nat × Nat))) ++ ([((a244, (m203 ++ ([(BitVec.ofInt 8 (w64 (mark2 + 9)))] : List Byte)).length, cap244) : Option Addr × Nat × Nat)] : List (Option Addr × Nat × Nat))).length) cap248), (26, VN 1), (27, VN s599), (288, .slice a248 ((((([] : List (Option Addr × Nat × Nat)) ++ ([((a225, (m125 ++ ([(BitVec.ofInt 8 (w64 (mark2 + 9)))] : List Byte)).length, cap225) : Option Addr × Nat × Nat)] : List (Option Addr × Nat × Nat))) ++ ([((a235, (m164 ++ ([(BitVec.ofInt 8 (w64 (mark2 + 9)))] : List Byte)).length, cap235) : Option Addr × Nat × Nat)] : List (Option Addr × Nat × Nat))) ++ ([((a244, (m203 ++ ([(BitVec.ofInt 8 (w64 (mark2 + 9)))] : List Byte)).length, cap244) : Option Addr × Nat × Nat)] : List (Option Addr × Nat × Nat))).length) cap248), (289, VN 0), (290, .pointer (a248.map fun z => ⟨z.block, z.off + 0 * 1, none⟩)), (291, .slice a225 ((m125 ++ ([(BitVec.ofInt 8 (w64 (mark2 + 9)))] : List Byte)).length) cap225), (292, .slice a248 ((((([] : List (Option Addr × Nat × Nat)) ++ ([((a225, (m125 ++ ([(BitVec.ofInt 8 (w64 (mark2 + 9)))] : List Byte)).length, cap225) : Option Addr × Nat × Nat)] : List (Option Addr × Nat × Nat))) ++ ([((a235, (m164 ++ ([(BitVec.ofInt 8 (w64 (mark2 + 9)))] : List Byte)).length, cap235) : Option Addr × Nat × Nat)] : List (Option Addr × Nat × Nat))) ++ ([((a244, (m203 ++ ([(BitVec.ofInt 8 (w64 (mark2 + 9)))] : List Byte)).length, cap244) : Option Addr × Nat × Nat)] : List (Option Addr × Nat × Nat))).length) cap248), (293, VN 0), (294, .pointer (a248.map fun z => ⟨z.block, z.off + 0 * 1, none⟩)), (295, .slice a225 ((m125 ++ ([(BitVec.ofInt 8 (w64 (mark2 + 9)))] : List Byte)).length) cap225), (296, VN ((m125 ++ ([(BitVec.ofInt 8 (w64 (mark2 + 9)))] : List Byte)).length)), (297, .int .i64 ((((m125 ++ ([(BitVec.ofInt 8 (w64 (mark2 + 9)))] : List Byte)).length : Nat) : Int) - 1)), (298, .pointer (a225.map fun z => ⟨z.block, z.off + (((((m125 ++ ([(BitVec.ofInt 8 (w64 (mark2 + 9)))] : List Byte)).length : Nat) : Int) - 1).toNat), none⟩)), (299, VU .u8 (lit (m125 ++ ([(BitVec.ofInt 8 (w64 (mark2 + 9)))] : List Byte)) (((((m125 ++ ([(BitVec.ofInt 8 (w64 (mark2 + 9)))] : List Byte)).length : Nat) : Int) - 1).toNat))), (300, .int .i64 mark2), (301, .int .i64 (w64 (mark2 + 9))), (302, VU .u8 (BitVec.ofInt 8 (w64 (mark2 + 9)))), (303, .bool (decide ((lit (m125 ++ ([(BitVec.ofInt 8 (w64 (mark2 + 9)))] : List Byte)) (((((m125 ++ ([(BitVec.ofInt 8 (w64 (mark2 + 9)))] : List Byte)).length : Nat) : Int) - 1).toNat)) ≠ (BitVec.ofInt 8 (w64 (mark2 + 9))))))] ∧ St B (w0.on [mapR kvI D60 [] m5 ([(1, (1, 2, 1, ((a33, (seg ((([] : List Byte) ++ (([1#8, 2#8] : List Byte) ++ (seg b1 0 (min b1.length 40)))) ++ ([7#8, 7#8, 7#8] : List Byte)) 0 ((([1#8, 2#8] : List Byte) ++ (seg b1 0 (min b1.length 40))).length)).length, cap33) : Option Addr × Nat × Nat)))] : List (Int × Int × Int × Int × (Option Addr × Nat × Nat)))]) (⟨pb244, 0, cap244, fun q => VU .u8 (F244 q), true⟩ :: ⟨pb235, 0, cap235, fun q => VU .u8 (F235 q), true⟩ :: ⟨pb248, 0, cap248 * 1, F248, true⟩ :: ⟨pb225, 0, cap225, fun q => VU .u8 (F225 q), true⟩ :: r244 :: r235 :: r225 :: ⟨some b93, 0, 1, fun _ => .int .i64 mark2, true⟩ :: ⟨some b93, 1, 1, fun _ => .int .i64 1, true⟩ :: ⟨some b93, 2, 1, fun _ => .int .i64 2, true⟩ :: ⟨some b93, 3, 1, fun _ => .slice am125 ((seg ((([] : List Byte) ++ (([1#8, 2#8] : List Byte) ++ (seg b1 0 (min b1.length 40)))) ++ ([7#8, 7#8, 7#8] : List Byte)) 0 ((([1#8, 2#8] : List Byte) ++ (seg b1 0 (min b1.length 40))).length)).length) cm125, true⟩ :: ⟨some b93, 4, 1, fun _ => .int .i64 mark2, true⟩ :: ⟨some b93, 5, 1, fun _ => .int .i64 2, true⟩ :: ⟨some b93, 6, 1, fun _ => .int .i64 1, true⟩ :: ⟨some b93, 7, 1, fun _ => .slice am164 ((seg ((([] : List Byte) ++ (([1#8, 2#8] : List Byte) ++ (seg b1 0 (min b1.length 40)))) ++ ([7#8, 7#8, 7#8] : List Byte)) 0 ((([1#8, 2#8] : List Byte) ++ (seg b1 0 (min b1.length 40))).length)).length) cm164, true⟩ :: ⟨some b93, 8, 1, fun _ => .int .i64 mark2, true⟩ :: ⟨some b93, 9, 1, fun _ => .int .i64 1, true⟩ :: ⟨some b93, 10, 1, fun _ => .int .i64 2, true⟩ :: ⟨some b93, 11, 1, fun _ => .slice am203 ((seg ((([] : List Byte) ++ (([1#8, 2#8] : List Byte) ++ (seg b1 0 (min b1.length 40)))) ++ ([7#8, 7#8, 7#8] : List Byte)) 0 ((([1#8, 2#8] : List Byte) ++ (seg b1 0 (min b1.length 40))).length)).length) cm203, true⟩ :: ⟨pb33, 0, cap33, fun q => VU .u8 (F33 q), true⟩ :: L) w) ⟨(zer (zer (zer (zer (zer (zer (zer (zer (zer (zer (zer (zer (zer (zer (zer (zer (zer (zer (zer (zer (zer zen))))))))))))))))))))), h559⟩ ?_
                     rintro i_598 o599 hR hx599 ev600 wl600 ⟨he600, h600⟩
                     obtain ⟨ev600, rfl⟩ := he600.open
                     unfold lethelaw23_NetHands_l6 at hR
                     refine W.seq_k fun _ k601 => W.seq_k fun _ k602 => ?_
                     refine W.regionT [(0, true), (1, true), (2, true), (3, true), (4, true), (5, true), (6, true), (7, true)] (by kernel_rfl) ?_
                     refine Plan.move_int rfl rfl <| Plan.move_slice rfl rfl <| Plan.move_int rfl rfl <| Plan.idxSlO (j := 1) (o' := 4) FNetHands.sl57 rfl rfl rfl (by omega) rfl <| Plan.fieldAddr 3 FNetHands.fld60_3 rfl rfl <| Plan.load0 h600 14 rfl rfl rfl (by omega) FNetHands.sc23 <| Plan.len FNetHands.isl23 rfl rfl <| Plan.cmpP (a := (((i_598 : Nat) : Int) : Int)) (b := ((((seg ((([] : List Byte) ++ (([1#8, 2#8] : List Byte) ++ (seg b1 0 (min b1.length 40)))) ++ ([7#8, 7#8, 7#8] : List Byte)) 0 ((([1#8, 2#8] : List Byte) ++ (seg b1 0 (min b1.length 40))).length)).length : Nat) : Int) : Int)) (p := i_598 < (seg ((([] : List Byte) ++ (([1#8, 2#8] : List Byte) ++ (seg b1 0 (min b1.length 40)))) ++ ([7#8, 7#8, 7#8] : List Byte)) 0 ((([1#8, 2#8] : List Byte) ++ (seg b1 0 (min b1.length 40))).length)).length) rfl rfl rfl rfl icmp_ltN ?_
                     refine Plan.nil (k602 _ _ ?_); clear k602
                     by_cases hc603 : i_598 < (seg ((([] : List Byte) ++ (([1#8, 2#8] : List Byte) ++ (seg b1 0 (min b1.length 40)))) ++ ([7#8, 7#8, 7#8] : List Byte)) 0 ((([1#8, 2#8] : List Byte) ++ (seg b1 0 (min b1.length 40))).length)).length
                     ·
                      replace hR := ifT hR hc603
                      refine W.condT (congrArg Value.bool (decide_eq_true hc603)) ?_
                      refine W.skip ?_
                      refine k601 _ _ ?_; clear k601
                      refine W.seq_k fun _ k604 => ?_
                      refine W.block ?_
                      refine W.seq_k fun _ k605 => W.regionT [(0, true), (1, true), (2, true), (3, true), (4, true), (5, true), (6, true), (7, true), (8, true), (9, true), (10, true), (11, true), (12, true)] (by kernel_rfl) ?_
                      refine Plan.move_slice rfl rfl <| Plan.move_int rfl rfl <| Plan.idxSlO (j := 1) (o' := 4) FNetHands.sl57 rfl rfl rfl (by omega) rfl <| Plan.fieldAddr 3 FNetHands.fld60_3 rfl rfl <| Plan.load0 h600 14 rfl rfl rfl (by omega) FNetHands.sc23 <| Plan.move_int rfl rfl ?_
                      obtain ⟨hc606, hR⟩ := hR
                      refine Plan.idxVS (j := i_598) h600 (Bx.two (L' := [_, _, _, _, _, _, _, _, _, _, _, _, _, _, _, _, _, _, _, _] ++ _) (j1 := 1) (j2 := 5) hv235 hi235 rfl rfl rfl rfl) FNetHands.sl23 rfl rfl rfl hc606 ?_
                      refine Plan.loadV (j := i_598) h600 (Bx.two (L' := [_, _, _, _, _, _, _, _, _, _, _, _, _, _, _, _, _, _, _, _] ++ _) (j1 := 1) (j2 := 5) hv235 hi235 rfl rfl rfl rfl) rfl rfl hc606 FNetHands.sc5 fun r607 hr607 => ?_
                      refine Plan.move_int rfl rfl <| Plan.move_int rfl rfl <| Plan.addW (a := mark2) (b := 1) rfl rfl rfl <| Plan.convIU .u8 (a := (w64 (mark2 + 1))) FNetHands.u5 FNetHands.some3 rfl rfl <| Plan.cmpP (a := ((lit m164 i_598).toNat : Int)) (b := ((BitVec.ofInt 8 (w64 (mark2 + 1))).toNat : Int)) (p := (lit m164 i_598) ≠ (BitVec.ofInt 8 (w64 (mark2 + 1)))) rfl rfl rfl rfl icmp_neU <| Plan.nil (k605 _ _ ?_); clear k605
                      by_cases hc608 : (lit m164 i_598) ≠ (BitVec.ofInt 8 (w64 (mark2 + 1)))
                      ·
                       replace hR := ifT hR hc608
                       refine W.condT (congrArg Value.bool (decide_eq_true hc608)) ?_
                       refine W.seq_k fun _ k609 => W.regionT [(0, true)] (by kernel_rfl) ?_
                       refine Plan.assign_bool rfl rfl <| Plan.nil (k609 _ _ ?_); clear k609
                       refine W.ret (blockR_ret (thenR_ret (iterR_ret (blockR_ret (thenR_ret (thenR_ret (blockR_ret (thenR_ret (thenR_ret (blockR_ret (thenR_ret (finR_ret ?_))))))))))))
                       have h610 := St.pickT (C := [_, _, _, _, _, _, _, _, _, _, _, _, _, _, _, _, _, _, _, _]) h600 [] (by decide)
                       simp only [pick, zfc, zfn, zgz, zgs, zca, zna] at h610
                       have h611 : St B w0 _ _ := St.mpick (N := [mapR kvI D60 [] m5 ([(1, (1, 2, 1, ((a33, (seg ((([] : List Byte) ++ (([1#8, 2#8] : List Byte) ++ (seg b1 0 (min b1.length 40)))) ++ ([7#8, 7#8, 7#8] : List Byte)) 0 ((([1#8, 2#8] : List Byte) ++ (seg b1 0 (min b1.length 40))).length)).length, cap33) : Option Addr × Nat × Nat)))] : List (Int × Int × Int × Int × (Option Addr × Nat × Nat)))]) (N' := []) h610 [] (by decide) rfl
                       replace hR := hR.2
                       subst r
                       refine RetOk.mk (.tmp_bool rfl .nil) ?_
                       exact ⟨rfl, h611⟩
                      ·
                       replace hR := ifF hR hc608
                       refine W.condF (congrArg Value.bool (decide_eq_false hc608)) ?_
                       refine W.skip ?_
                       refine blockR_norm ?_
                       refine k604 _ _ ?_; clear k604
                       refine W.regionT [(0, true), (1, true), (2, true)] (by kernel_rfl) ?_
                       refine Plan.move_int rfl rfl ?_
                       obtain ⟨hc612, hR⟩ := hR
                       refine Plan.addN (a := i_598) (b := 1) rfl rfl rfl (by omega) <| Plan.assign_int rfl rfl <| Plan.nil ?_
                       exact iterR_norm ⟨_, hR, (zer (zer (zer (zer (zer (zer (zer (zer (zer (zer (zer (zer (zer (zer (zer (zer (zer (zer (zer (zer (zer zen))))))))))))))))))))), h600⟩
                     ·
                      replace hR := ifF hR hc603
                      refine W.condF (congrArg Value.bool (decide_eq_false hc603)) ?_
                      refine W.exit (thenR_exit (iterR_exit (blockR_here ?_)))
                      exact ⟨(hx599 _ hR).symm, (zer (zer (zer (zer (zer (zer (zer (zer (zer (zer (zer (zer (zer (zer (zer (zer (zer (zer (zer (zer zen)))))))))))))))))))), h600⟩
                    ·
                     rintro ev613 wl613 ⟨hy613, he613, h613⟩
                     obtain ⟨ev613, rfl⟩ := he613.open
                     replace hR := hR0599  hy613
                     refine k576 _ _ ?_; clear k576
                     refine W.seq_k fun _ k614 => ?_
                     refine W.regionD FNetHands.mixed [(0, true), (1, true), (2, true), (3, true), (4, true), (5, true), (6, true), (7, true), (8, true), (9, true), (10, true), (11, true), (12, true), (13, true), (14, true), (15, true), (16, true), (17, true), (18, true), (19, true), (20, true), (21, true), (22, true), (23, true), (24, true)] (by kernel_rfl) ?_
                     have h615 := h613.drew
                     refine Plan.move_slice rfl rfl <| Plan.move_int rfl rfl <| Plan.idxSlO (j := 1) (o' := 4) FNetHands.sl57 rfl rfl rfl (by omega) rfl <| Plan.fieldAddr0 FNetHands.fld60_0 rfl rfl <| Plan.load0 h615 11 rfl rfl rfl (by omega) FNetHands.sc3 <| Plan.move_int rfl rfl ?_
                     by_cases hc616 : mark2 ≠ mark2
                     ·
                      replace hR := ifT hR hc616
                      refine Plan.cmpV (a := (mark2 : Int)) (b := (mark2 : Int)) (p := mark2 ≠ mark2) (v := true) rfl rfl rfl rfl icmp_ne (decide_eq_true hc616) <| Plan.move_bool rfl rfl <| Plan.passed rfl <| Plan.passed rfl <| Plan.passed rfl <| Plan.passed rfl <| Plan.passed rfl <| Plan.passed rfl ?_
                      refine Plan.passed rfl <| Plan.passed rfl <| Plan.passed rfl <| Plan.passed rfl <| Plan.passed rfl <| Plan.passed rfl <| Plan.passed rfl <| Plan.passed rfl ?_
                      refine Plan.passed rfl <| Plan.passed rfl <| Plan.pickTb rfl rfl rfl <| Plan.nil (k614 _ _ ?_); clear k614
                      refine W.condT rfl ?_
                      refine W.seq_k fun _ k617 => W.regionT [(0, true)] (by kernel_rfl) ?_
                      refine Plan.assign_bool rfl rfl <| Plan.nil (k617 _ _ ?_); clear k617
                      refine W.ret (blockR_ret (thenR_ret (thenR_ret (blockR_ret (thenR_ret (finR_ret ?_))))))
                      have h618 := St.pickT (C := [_, _, _, _, _, _, _, _, _, _, _, _, _, _, _, _, _, _, _, _]) h615 [] (by decide)
                      simp only [pick, zfc, zfn, zgz, zgs, zca, zna] at h618
                      have h619 : St B w0 _ _ := St.mpick (N := [mapR kvI D60 [] m5 ([(1, (1, 2, 1, ((a33, (seg ((([] : List Byte) ++ (([1#8, 2#8] : List Byte) ++ (seg b1 0 (min b1.length 40)))) ++ ([7#8, 7#8, 7#8] : List Byte)) 0 ((([1#8, 2#8] : List Byte) ++ (seg b1 0 (min b1.length 40))).length)).length, cap33) : Option Addr × Nat × Nat)))] : List (Int × Int × Int × Int × (Option Addr × Nat × Nat)))]) (N' := []) h618 [] (by decide) rfl
                      subst r
                      refine RetOk.mk (.tmp_bool rfl .nil) ?_
                      exact ⟨rfl, h619⟩
                     ·
                      replace hR := ifF hR hc616
                      refine Plan.cmpV (a := (mark2 : Int)) (b := (mark2 : Int)) (p := mark2 ≠ mark2) (v := false) rfl rfl rfl rfl icmp_ne (decide_eq_false hc616) <| Plan.move_bool rfl rfl <| Plan.move_slice rfl rfl <| Plan.move_int rfl rfl <| Plan.idxLVS (D := D23) (j := 1) h615 (LO.lvf D23_flat ho248 2 rfl) FNetHands.sl61 rfl rfl rfl (show 1 < 3 by decide) ?_
                      refine Plan.loadLV1 (D := D23) (X := (((([] : List (Option Addr × Nat × Nat)) ++ ([((a225, (m125 ++ ([(BitVec.ofInt 8 (w64 (mark2 + 9)))] : List Byte)).length, cap225) : Option Addr × Nat × Nat)] : List (Option Addr × Nat × Nat))) ++ ([((a235, (m164 ++ ([(BitVec.ofInt 8 (w64 (mark2 + 9)))] : List Byte)).length, cap235) : Option Addr × Nat × Nat)] : List (Option Addr × Nat × Nat))) ++ ([((a244, (m203 ++ ([(BitVec.ofInt 8 (w64 (mark2 + 9)))] : List Byte)).length, cap244) : Option Addr × Nat × Nat)] : List (Option Addr × Nat × Nat)))) (j := 1) h615 ((none, 0, 0) : Option Addr × Nat × Nat) (fun _ x => .slice x.1 x.2.1 x.2.2) (LO.lvf D23_flat ho248 2 rfl) rfl rfl (show 1 < 3 by decide) rfl (fun _ _ => rfl) FNetHands.sc23 fun b620 r620 hs620 hr620 => ?_
                      refine Plan.move_slice rfl rfl <| Plan.move_int rfl rfl <| Plan.idxLVS (D := D23) (j := 1) h615 (LO.lvf D23_flat ho248 2 rfl) FNetHands.sl61 rfl rfl rfl (show 1 < 3 by decide) ?_
                      refine Plan.loadLV1 (D := D23) (X := (((([] : List (Option Addr × Nat × Nat)) ++ ([((a225, (m125 ++ ([(BitVec.ofInt 8 (w64 (mark2 + 9)))] : List Byte)).length, cap225) : Option Addr × Nat × Nat)] : List (Option Addr × Nat × Nat))) ++ ([((a235, (m164 ++ ([(BitVec.ofInt 8 (w64 (mark2 + 9)))] : List Byte)).length, cap235) : Option Addr × Nat × Nat)] : List (Option Addr × Nat × Nat))) ++ ([((a244, (m203 ++ ([(BitVec.ofInt 8 (w64 (mark2 + 9)))] : List Byte)).length, cap244) : Option Addr × Nat × Nat)] : List (Option Addr × Nat × Nat)))) (j := 1) h615 ((none, 0, 0) : Option Addr × Nat × Nat) (fun _ x => .slice x.1 x.2.1 x.2.2) (LO.lvf D23_flat ho248 2 rfl) rfl rfl (show 1 < 3 by decide) rfl (fun _ _ => rfl) FNetHands.sc23 fun b621 r621 hs621 hr621 => ?_
                      refine Plan.len FNetHands.isl23 rfl rfl ?_
                      obtain ⟨hc622, hR⟩ := hR
                      refine Plan.subI (a := (((m164 ++ ([(BitVec.ofInt 8 (w64 (mark2 + 9)))] : List Byte)).length : Nat) : Int)) (b := 1) rfl rfl rfl (by omega) ?_
                      obtain ⟨hc623, hR⟩ := hR
                      refine Plan.idxVS (j := ((((m164 ++ ([(BitVec.ofInt 8 (w64 (mark2 + 9)))] : List Byte)).length : Nat) : Int) - 1).toNat) h615 (ho235.bx 1 rfl) FNetHands.sl23 rfl rfl (congrArg (Value.int .i64) (Int.toNat_of_nonneg hc623.1).symm) (toNat_lt hc623.1 hc623.2) ?_
                      refine Plan.loadV (j := ((((m164 ++ ([(BitVec.ofInt 8 (w64 (mark2 + 9)))] : List Byte)).length : Nat) : Int) - 1).toNat) h615 (ho235.bx 1 rfl) rfl rfl (toNat_lt hc623.1 hc623.2) FNetHands.sc5 fun r624 hr624 => ?_
                      refine Plan.move_int rfl rfl <| Plan.addW (a := mark2) (b := 9) rfl rfl rfl <| Plan.convIU .u8 (a := (w64 (mark2 + 9))) FNetHands.u5 FNetHands.some3 rfl rfl <| Plan.cmpP (a := ((lit (m164 ++ ([(BitVec.ofInt 8 (w64 (mark2 + 9)))] : List Byte)) (((((m164 ++ ([(BitVec.ofInt 8 (w64 (mark2 + 9)))] : List Byte)).length : Nat) : Int) - 1).toNat)).toNat : Int)) (b := ((BitVec.ofInt 8 (w64 (mark2 + 9))).toNat : Int)) (p := (lit (m164 ++ ([(BitVec.ofInt 8 (w64 (mark2 + 9)))] : List Byte)) (((((m164 ++ ([(BitVec.ofInt 8 (w64 (mark2 + 9)))] : List Byte)).length : Nat) : Int) - 1).toNat)) ≠ (BitVec.ofInt 8 (w64 (mark2 + 9)))) rfl rfl rfl rfl icmp_neU <| Plan.pickFb rfl rfl rfl <| Plan.nil (k614 _ _ ?_); clear k614
                      by_cases hc625 : (lit (m164 ++ ([(BitVec.ofInt 8 (w64 (mark2 + 9)))] : List Byte)) (((((m164 ++ ([(BitVec.ofInt 8 (w64 (mark2 + 9)))] : List Byte)).length : Nat) : Int) - 1).toNat)) ≠ (BitVec.ofInt 8 (w64 (mark2 + 9)))
                      ·
                       replace hR := ifT hR hc625
                       refine W.condT (congrArg Value.bool (decide_eq_true hc625)) ?_
                       refine W.seq_k fun _ k626 => W.regionT [(0, true)] (by kernel_rfl) ?_
                       refine Plan.assign_bool rfl rfl <| Plan.nil (k626 _ _ ?_); clear k626
                       refine W.ret (blockR_ret (thenR_ret (thenR_ret (blockR_ret (thenR_ret (finR_ret ?_))))))
                       have h627 := St.pickT (C := [_, _, _, _, _, _, _, _, _, _, _, _, _, _, _, _, _, _, _, _]) h615 [] (by decide)
                       simp only [pick, zfc, zfn, zgz, zgs, zca, zna] at h627
                       have h628 : St B w0 _ _ := St.mpick (N := [mapR kvI D60 [] m5 ([(1, (1, 2, 1, ((a33, (seg ((([] : List Byte) ++ (([1#8, 2#8] : List Byte) ++ (seg b1 0 (min b1.length 40)))) ++ ([7#8, 7#8, 7#8] : List Byte)) 0 ((([1#8, 2#8] : List Byte) ++ (seg b1 0 (min b1.length 40))).length)).length, cap33) : Option Addr × Nat × Nat)))] : List (Int × Int × Int × Int × (Option Addr × Nat × Nat)))]) (N' := []) h627 [] (by decide) rfl
                       subst r
                       refine RetOk.mk (.tmp_bool rfl .nil) ?_
                       exact ⟨rfl, h628⟩
                      ·
                       replace hR := ifF hR hc625
                       refine W.condF (congrArg Value.bool (decide_eq_false hc625)) ?_
                       refine W.skip ?_
                       refine blockR_norm ?_
                       refine k575 _ _ ?_; clear k575
                       refine W.regionT [(0, true), (1, true), (2, true)] (by kernel_rfl) ?_
                       refine Plan.move_int rfl rfl <| Plan.addN (a := 1) (b := 1) rfl rfl rfl (by omega) <| Plan.assign_int rfl rfl <| Plan.nil ?_
                       refine UL.nextT ?_
                       refine W.seq_k fun _ k629 => W.seq_k fun _ k630 => ?_
                       refine W.regionT [(0, true), (1, true)] (by kernel_rfl) ?_
                       refine Plan.move_int rfl rfl <| Plan.cmpP (a := (2 : Int)) (b := (3 : Int)) (p := (2 : Nat) < 3) rfl rfl rfl rfl icmp_ltN <| Plan.nil (k630 _ _ ?_); clear k630
                       refine W.condT rfl ?_
                       refine W.skip ?_
                       refine k629 _ _ ?_; clear k629
                       refine W.seq_k fun _ k631 => ?_
                       refine W.block ?_
                       refine W.seq_k fun _ k632 => W.seq_k fun _ k633 => ?_
                       refine W.regionT [(0, true)] (by kernel_rfl) ?_
                       refine Plan.assign_int rfl rfl <| Plan.nil (k633 _ _ ?_); clear k633
                       obtain ⟨x655, hI655, hR0655⟩ := hR
                       refine W.cutN (fun e w => x655 = some () ∧ EnvHas e [(1, .int .i64 mark2), (16, .slice (some ⟨b93, 0, none⟩) 3 cap93), (19, .slice a248 ((((([] : List (Option Addr × Nat × Nat)) ++ ([((a225, (m125 ++ ([(BitVec.ofInt 8 (w64 (mark2 + 9)))] : List Byte)).length, cap225) : Option Addr × Nat × Nat)] : List (Option Addr × Nat × Nat))) ++ ([((a235, (m164 ++ ([(BitVec.ofInt 8 (w64 (mark2 + 9)))] : List Byte)).length, cap235) : Option Addr × Nat × Nat)] : List (Option Addr × Nat × Nat))) ++ ([((a244, (m203 ++ ([(BitVec.ofInt 8 (w64 (mark2 + 9)))] : List Byte)).length, cap244) : Option Addr × Nat × Nat)] : List (Option Addr × Nat × Nat))).length) cap248), (26, VN 2), (288, .slice a248 ((((([] : List (Option Addr × Nat × Nat)) ++ ([((a225, (m125 ++ ([(BitVec.ofInt 8 (w64 (mark2 + 9)))] : List Byte)).length, cap225) : Option Addr × Nat × Nat)] : List (Option Addr × Nat × Nat))) ++ ([((a235, (m164 ++ ([(BitVec.ofInt 8 (w64 (mark2 + 9)))] : List Byte)).length, cap235) : Option Addr × Nat × Nat)] : List (Option Addr × Nat × Nat))) ++ ([((a244, (m203 ++ ([(BitVec.ofInt 8 (w64 (mark2 + 9)))] : List Byte)).length, cap244) : Option Addr × Nat × Nat)] : List (Option Addr × Nat × Nat))).length) cap248), (289, VN 1), (290, .pointer (a248.map fun z => ⟨z.block, z.off + 1 * 1, none⟩)), (291, .slice a235 ((m164 ++ ([(BitVec.ofInt 8 (w64 (mark2 + 9)))] : List Byte)).length) cap235), (292, .slice a248 ((((([] : List (Option Addr × Nat × Nat)) ++ ([((a225, (m125 ++ ([(BitVec.ofInt 8 (w64 (mark2 + 9)))] : List Byte)).length, cap225) : Option Addr × Nat × Nat)] : List (Option Addr × Nat × Nat))) ++ ([((a235, (m164 ++ ([(BitVec.ofInt 8 (w64 (mark2 + 9)))] : List Byte)).length, cap235) : Option Addr × Nat × Nat)] : List (Option Addr × Nat × Nat))) ++ ([((a244, (m203 ++ ([(BitVec.ofInt 8 (w64 (mark2 + 9)))] : List Byte)).length, cap244) : Option Addr × Nat × Nat)] : List (Option Addr × Nat × Nat))).length) cap248), (293, VN 1), (294, .pointer (a248.map fun z => ⟨z.block, z.off + 1 * 1, none⟩)), (295, .slice a235 ((m164 ++ ([(BitVec.ofInt 8 (w64 (mark2 + 9)))] : List Byte)).length) cap235), (296, VN ((m164 ++ ([(BitVec.ofInt 8 (w64 (mark2 + 9)))] : List Byte)).length)), (297, .int .i64 ((((m164 ++ ([(BitVec.ofInt 8 (w64 (mark2 + 9)))] : List Byte)).length : Nat) : Int) - 1)), (298, .pointer (a235.map fun z => ⟨z.block, z.off + (((((m164 ++ ([(BitVec.ofInt 8 (w64 (mark2 + 9)))] : List Byte)).length : Nat) : Int) - 1).toNat), none⟩)), (299, VU .u8 (lit (m164 ++ ([(BitVec.ofInt 8 (w64 (mark2 + 9)))] : List Byte)) (((((m164 ++ ([(BitVec.ofInt 8 (w64 (mark2 + 9)))] : List Byte)).length : Nat) : Int) - 1).toNat))), (300, .int .i64 mark2), (301, .int .i64 (w64 (mark2 + 9))), (302, VU .u8 (BitVec.ofInt 8 (w64 (mark2 + 9)))), (303, .bool (decide ((lit (m164 ++ ([(BitVec.ofInt 8 (w64 (mark2 + 9)))] : List Byte)) (((((m164 ++ ([(BitVec.ofInt 8 (w64 (mark2 + 9)))] : List Byte)).length : Nat) : Int) - 1).toNat)) ≠ (BitVec.ofInt 8 (w64 (mark2 + 9))))))] ∧ St B (w0.on [mapR kvI D60 [] m5 ([(1, (1, 2, 1, ((a33, (seg ((([] : List Byte) ++ (([1#8, 2#8] : List Byte) ++ (seg b1 0 (min b1.length 40)))) ++ ([7#8, 7#8, 7#8] : List Byte)) 0 ((([1#8, 2#8] : List Byte) ++ (seg b1 0 (min b1.length 40))).length)).length, cap33) : Option Addr × Nat × Nat)))] : List (Int × Int × Int × Int × (Option Addr × Nat × Nat)))]) (⟨pb244, 0, cap244, fun q => VU .u8 (F244 q), true⟩ :: ⟨pb235, 0, cap235, fun q => VU .u8 (F235 q), true⟩ :: ⟨pb248, 0, cap248 * 1, F248, true⟩ :: ⟨pb225, 0, cap225, fun q => VU .u8 (F225 q), true⟩ :: r244 :: r235 :: r225 :: ⟨some b93, 0, 1, fun _ => .int .i64 mark2, true⟩ :: ⟨some b93, 1, 1, fun _ => .int .i64 1, true⟩ :: ⟨some b93, 2, 1, fun _ => .int .i64 2, true⟩ :: ⟨some b93, 3, 1, fun _ => .slice am125 ((seg ((([] : List Byte) ++ (([1#8, 2#8] : List Byte) ++ (seg b1 0 (min b1.length 40)))) ++ ([7#8, 7#8, 7#8] : List Byte)) 0 ((([1#8, 2#8] : List Byte) ++ (seg b1 0 (min b1.length 40))).length)).length) cm125, true⟩ :: ⟨some b93, 4, 1, fun _ => .int .i64 mark2, true⟩ :: ⟨some b93, 5, 1, fun _ => .int .i64 2, true⟩ :: ⟨some b93, 6, 1, fun _ => .int .i64 1, true⟩ :: ⟨some b93, 7, 1, fun _ => .slice am164 ((seg ((([] : List Byte) ++ (([1#8, 2#8] : List Byte) ++ (seg b1 0 (min b1.length 40)))) ++ ([7#8, 7#8, 7#8] : List Byte)) 0 ((([1#8, 2#8] : List Byte) ++ (seg b1 0 (min b1.length 40))).length)).length) cm164, true⟩ :: ⟨some b93, 8, 1, fun _ => .int .i64 mark2, true⟩ :: ⟨some b93, 9, 1, fun _ => .int .i64 1, true⟩ :: ⟨some b93, 10, 1, fun _ => .int .i64 2, true⟩ :: ⟨some b93, 11, 1, fun _ => .slice am203 ((seg ((([] : List Byte) ++ (([1#8, 2#8] : List Byte) ++ (seg b1 0 (min b1.length 40)))) ++ ([7#8, 7#8, 7#8] : List Byte)) 0 ((([1#8, 2#8] : List Byte) ++ (seg b1 0 (min b1.length 40))).length)).length) cm203, true⟩ :: ⟨pb33, 0, cap33, fun q => VU .u8 (F33 q), true⟩ :: L) w) ?_ ?_
                       ·
                        refine W.block ?_
                        refine W.iter hI655 (fun (s655 : Nat) e w => EnvHas e [(1, .int .i64 mark2), (16, .slice (some ⟨b93, 0, none⟩) 3 cap93), (19, .slice a248 ((((([] : List (Option Addr × Nat × Nat)) ++ ([((a225, (m125 ++ ([(BitVec.ofInt 8 (w64 (mark2 + 9)))] : List Byte)).length, cap225) : Option Addr × Nat × Nat)] : List (Option Addr × Nat × Nat))) ++ ([((a235, (m164 ++ ([(BitVec.ofInt 8 (w64 (mark2 + 9)))] : List Byte)).length, cap235) : Option Addr × Nat × Nat)] : List (Option Addr × Nat × Nat))) ++ ([((a244, (m203 ++ ([(BitVec.ofInt 8 (w64 (mark2 + 9)))] : List Byte)).length, cap244) : Option Addr × Nat × Nat)] : List (Option Addr × Nat × Nat))).length) cap248), (26, VN 2), (27, VN s655), (288, .slice a248 ((((([] : List (Option Addr × Nat × Nat)) ++ ([((a225, (m125 ++ ([(BitVec.ofInt 8 (w64 (mark2 + 9)))] : List Byte)).length, cap225) : Option Addr × Nat × Nat)] : List (Option Addr × Nat × Nat))) ++ ([((a235, (m164 ++ ([(BitVec.ofInt 8 (w64 (mark2 + 9)))] : List Byte)).length, cap235) : Option Addr × Nat × Nat)] : List (Option Addr × Nat × Nat))) ++ ([((a244, (m203 ++ ([(BitVec.ofInt 8 (w64 (mark2 + 9)))] : List Byte)).length, cap244) : Option Addr × Nat × Nat)] : List (Option Addr × Nat × Nat))).length) cap248), (289, VN 1), (290, .pointer (a248.map fun z => ⟨z.block, z.off + 1 * 1, none⟩)), (291, .slice a235 ((m164 ++ ([(BitVec.ofInt 8 (w64 (mark2 + 9)))] : List Byte)).length) cap235), (292, .slice a248 ((((([] : List (Option Addr × Nat × Nat)) ++ ([((a225, (m125 ++ ([(BitVec.ofInt 8 (w64 (mark2 + 9)))] : List Byte)).length, cap225) : Option Addr × Nat × Nat)] : List (Option Addr × Nat × Nat))) ++ ([((a235, (m164 ++ ([(BitVec.ofInt 8 (w64 (mark2 + 9)))] : List Byte)).length, cap235) : Option Addr × Nat × Nat)] : List (Option Addr × Nat × Nat))) ++ ([((a244, (m203 ++ ([(BitVec.ofInt 8 (w64 (mark2 + 9)))] : List Byte)).length, cap244) : Option Addr × Nat × Nat)] : List (Option Addr × Nat × Nat))).length) cap248), (293, VN 1), (294, .pointer (a248.map fun z => ⟨z.block, z.off + 1 * 1, none⟩)), (295, .slice a235 ((m164 ++ ([(BitVec.ofInt 8 (w64 (mark2 + 9)))] : List Byte)).length) cap235), (296, VN ((m164 ++ ([(BitVec.ofInt 8 (w64 (mark2 + 9)))] : List Byte)).length)), (297, .int .i64 ((((m164 ++ ([(BitVec.ofInt 8 (w64 (mark2 + 9)))] : List Byte)).length : Nat) : Int) - 1)), (298, .pointer (a235.map fun z => ⟨z.block, z.off + (((((m164 ++ ([(BitVec.ofInt 8 (w64 (mark2 + 9)))] : List Byte)).length : Nat) : Int) - 1).toNat), none⟩)), (299, VU .u8 (lit (m164 ++ ([(BitVec.ofInt 8 (w64 (mark2 + 9)))] : List Byte)) (((((m164 ++ ([(BitVec.ofInt 8 (w64 (mark2 + 9)))] : List Byte)).length : Nat) : Int) - 1).toNat))), (300, .int .i64 mark2), (301, .int .i64 (w64 (mark2 + 9))), (302, VU .u8 (BitVec.ofInt 8 (w64 (mark2 + 9)))), (303, .bool (decide ((lit (m164 ++ ([(BitVec.ofInt 8 (w64 (mark2 + 9)))] : List Byte)) (((((m164 ++ ([(BitVec.ofInt 8 (w64 (mark2 + 9)))] : List Byte)).length : Nat) : Int) - 1).toNat)) ≠ (BitVec.ofInt 8 (w64 (mark2 + 9))))))] ∧ St B (w0.on [mapR kvI D60 [] m5 ([(1, (1, 2, 1, ((a33, (seg ((([] : List Byte) ++ (([1#8, 2#8] : List Byte) ++ (seg b1 0 (min b1.length 40)))) ++ ([7#8, 7#8, 7#8] : List Byte)) 0 ((([1#8, 2#8] : List Byte) ++ (seg b1 0 (min b1.length 40))).length)).length, cap33) : Option Addr × Nat × Nat)))] : List (Int × Int × Int × Int × (Option Addr × Nat × Nat)))]) (⟨pb244, 0, cap244, fun q => VU .u8 (F244 q), true⟩ :: ⟨pb235, 0, cap235, fun q => VU .u8 (F235 q), true⟩ :: ⟨pb248, 0, cap248 * 1, F248, true⟩ :: ⟨pb225, 0, cap225, fun q => VU .u8 (F225 q), true⟩ :: r244 :: r235 :: r225 :: ⟨some b93, 0, 1, fun _ => .int .i64 mark2, true⟩ :: ⟨some b93, 1, 1, fun _ => .int .i64 1, true⟩ :: ⟨some b93, 2, 1, fun _ => .int .i64 2, true⟩ :: ⟨some b93, 3, 1, fun _ => .slice am125 ((seg ((([] : List Byte) ++ (([1#8, 2#8] : List Byte) ++ (seg b1 0 (min b1.length 40)))) ++ ([7#8, 7#8, 7#8] : List Byte)) 0 ((([1#8, 2#8] : List Byte) ++ (seg b1 0 (min b1.length 40))).length)).length) cm125, true⟩ :: ⟨some b93, 4, 1, fun _ => .int .i64 mark2, true⟩ :: ⟨some b93, 5, 1, fun _ => .int .i64 2, true⟩ :: ⟨some b93, 6, 1, fun _ => .int .i64 1, true⟩ :: ⟨some b93, 7, 1, fun _ => .slice am164 ((seg ((([] : List Byte) ++ (([1#8, 2#8] : List Byte) ++ (seg b1 0 (min b1.length 40)))) ++ ([7#8, 7#8, 7#8] : List Byte)) 0 ((([1#8, 2#8] : List Byte) ++ (seg b1 0 (min b1.length 40))).length)).length) cm164, true⟩ :: ⟨some b93, 8, 1, fun _ => .int .i64 mark2, true⟩ :: ⟨some b93, 9, 1, fun _ => .int .i64 1, true⟩ :: ⟨some b93, 10, 1, fun _ => .int .i64 2, true⟩ :: ⟨some b93, 11, 1, fun _ => .slice am203 ((seg ((([] : List Byte) ++ (([1#8, 2#8] : List Byte) ++ (seg b1 0 (min b1.length 40)))) ++ ([7#8, 7#8, 7#8] : List Byte)) 0 ((([1#8, 2#8] : List Byte) ++ (seg b1 0 (min b1.length 40))).length)).length) cm203, true⟩ :: ⟨pb33, 0, cap33, fun q => VU .u8 (F33 q), true⟩ :: L) w) ⟨(zer (zer (zer (zer (zer (zer (zer (zer (zer (zer (zer (zer (zer (zer (zer (zer (zer (zer (zer (zer (zer zen))))))))))))))))))))), h615⟩ ?_
                        rintro i_654 o655 hR hx655 ev656 wl656 ⟨he656, h656⟩
                        obtain ⟨ev656, rfl⟩ := he656.open
                        unfold lethelaw23_NetHands_l7 at hR
                        refine W.seq_k fun _ k657 => W.seq_k fun _ k658 => ?_
                        refine W.regionT [(0, true), (1, true), (2, true), (3, true), (4, true), (5, true), (6, true), (7, true)] (by kernel_rfl) ?_
                        refine Plan.move_int rfl rfl <| Plan.move_slice rfl rfl <| Plan.move_int rfl rfl <| Plan.idxSlO (j := 2) (o' := 8) FNetHands.sl57 rfl rfl rfl (by omega) rfl <| Plan.fieldAddr 3 FNetHands.fld60_3 rfl rfl <| Plan.load0 h656 18 rfl rfl rfl (by omega) FNetHands.sc23 <| Plan.len FNetHands.isl23 rfl rfl <| Plan.cmpP (a := (((i_654 : Nat) : Int) : Int)) (b := ((((seg ((([] : List Byte) ++ (([1#8, 2#8] : List Byte) ++ (seg b1 0 (min b1.length 40)))) ++ ([7#8, 7#8, 7#8] : List Byte)) 0 ((([1#8, 2#8] : List Byte) ++ (seg b1 0 (min b1.length 40))).length)).length : Nat) : Int) : Int)) (p := i_654 < (seg ((([] : List Byte) ++ (([1#8, 2#8] : List Byte) ++ (seg b1 0 (min b1.length 40)))) ++ ([7#8, 7#8, 7#8] : List Byte)) 0 ((([1#8, 2#8] : List Byte) ++ (seg b1 0 (min b1.length 40))).length)).length) rfl rfl rfl rfl icmp_ltN ?_
                        refine Plan.nil (k658 _ _ ?_); clear k658
                        by_cases hc659 : i_654 < (seg ((([] : List Byte) ++ (([1#8, 2#8] : List Byte) ++ (seg b1 0 (min b1.length 40)))) ++ ([7#8, 7#8, 7#8] : List Byte)) 0 ((([1#8, 2#8] : List Byte) ++ (seg b1 0 (min b1.length 40))).length)).length
                        ·
                         replace hR := ifT hR hc659
                         refine W.condT (congrArg Value.bool (decide_eq_true hc659)) ?_
                         refine W.skip ?_
                         refine k657 _ _ ?_; clear k657
                         refine W.seq_k fun _ k660 => ?_
                         refine W.block ?_
                         refine W.seq_k fun _ k661 => W.regionT [(0, true), (1, true), (2, true), (3, true), (4, true), (5, true), (6, true), (7, true), (8, true), (9, true), (10, true), (11, true), (12, true)] (by kernel_rfl) ?_
                         refine Plan.move_slice rfl rfl <| Plan.move_int rfl rfl <| Plan.idxSlO (j := 2) (o' := 8) FNetHands.sl57 rfl rfl rfl (by omega) rfl <| Plan.fieldAddr 3 FNetHands.fld60_3 rfl rfl <| Plan.load0 h656 18 rfl rfl rfl (by omega) FNetHands.sc23 <| Plan.move_int rfl rfl ?_
                         obtain ⟨hc662, hR⟩ := hR
                         refine Plan.idxVS (j := i_654) h656 (Bx.two (L' := [_, _, _, _, _, _, _, _, _, _, _, _, _, _, _, _, _, _, _, _] ++ _) (j1 := 0) (j2 := 4) hv244 hi244 rfl rfl rfl rfl) FNetHands.sl23 rfl rfl rfl hc662 ?_
                         refine Plan.loadV (j := i_654) h656 (Bx.two (L' := [_, _, _, _, _, _, _, _, _, _, _, _, _, _, _, _, _, _, _, _] ++ _) (j1 := 0) (j2 := 4) hv244 hi244 rfl rfl rfl rfl) rfl rfl hc662 FNetHands.sc5 fun r663 hr663 => ?_
                         refine Plan.move_int rfl rfl <| Plan.move_int rfl rfl <| Plan.addW (a := mark2) (b := 2) rfl rfl rfl <| Plan.convIU .u8 (a := (w64 (mark2 + 2))) FNetHands.u5 FNetHands.some3 rfl rfl <| Plan.cmpP (a := ((lit m203 i_654).toNat : Int)) (b := ((BitVec.ofInt 8 (w64 (mark2 + 2))).toNat : Int)) (p := (lit m203 i_654) ≠ (BitVec.ofInt 8 (w64 (mark2 + 2)))) rfl rfl rfl rfl icmp_neU <| Plan.nil (k661 _ _ ?_); clear k661
                         by_cases hc664 : (lit m203 i_654) ≠ (BitVec.ofInt 8 (w64 (mark2 + 2)))
                         ·
                          replace hR := ifT hR hc664
                          refine W.condT (congrArg Value.bool (decide_eq_true hc664)) ?_
                          refine W.seq_k fun _ k665 => W.regionT [(0, true)] (by kernel_rfl) ?_
                          refine Plan.assign_bool rfl rfl <| Plan.nil (k665 _ _ ?_); clear k665
                          refine W.ret (blockR_ret (thenR_ret (iterR_ret (blockR_ret (thenR_ret (thenR_ret (blockR_ret (thenR_ret (thenR_ret (blockR_ret (thenR_ret (finR_ret ?_))))))))))))
                          have h666 := St.pickT (C := [_, _, _, _, _, _, _, _, _, _, _, _, _, _, _, _, _, _, _, _]) h656 [] (by decide)
                          simp only [pick, zfc, zfn, zgz, zgs, zca, zna] at h666
                          have h667 : St B w0 _ _ := St.mpick (N := [mapR kvI D60 [] m5 ([(1, (1, 2, 1, ((a33, (seg ((([] : List Byte) ++ (([1#8, 2#8] : List Byte) ++ (seg b1 0 (min b1.length 40)))) ++ ([7#8, 7#8, 7#8] : List Byte)) 0 ((([1#8, 2#8] : List Byte) ++ (seg b1 0 (min b1.length 40))).length)).length, cap33) : Option Addr × Nat × Nat)))] : List (Int × Int × Int × Int × (Option Addr × Nat × Nat)))]) (N' := []) h666 [] (by decide) rfl
                          replace hR := hR.2
                          subst r
                          refine RetOk.mk (.tmp_bool rfl .nil) ?_
                          exact ⟨rfl, h667⟩
                         ·
                          replace hR := ifF hR hc664
                          refine W.condF (congrArg Value.bool (decide_eq_false hc664)) ?_
                          refine W.skip ?_
                          refine blockR_norm ?_
                          refine k660 _ _ ?_; clear k660
                          refine W.regionT [(0, true), (1, true), (2, true)] (by kernel_rfl) ?_
                          refine Plan.move_int rfl rfl ?_
                          obtain ⟨hc668, hR⟩ := hR
                          refine Plan.addN (a := i_654) (b := 1) rfl rfl rfl (by omega) <| Plan.assign_int rfl rfl <| Plan.nil ?_
                          exact iterR_norm ⟨_, hR, (zer (zer (zer (zer (zer (zer (zer (zer (zer (zer (zer (zer (zer (zer (zer (zer (zer (zer (zer (zer (zer zen))))))))))))))))))))), h656⟩
                        ·
                         replace hR := ifF hR hc659
                         refine W.condF (congrArg Value.bool (decide_eq_false hc659)) ?_
                         refine W.exit (thenR_exit (iterR_exit (blockR_here ?_)))
                         exact ⟨(hx655 _ hR).symm, (zer (zer (zer (zer (zer (zer (zer (zer (zer (zer (zer (zer (zer (zer (zer (zer (zer (zer (zer (zer zen)))))))))))))))))))), h656⟩
                       ·
                        rintro ev669 wl669 ⟨hy669, he669, h669⟩
                        obtain ⟨ev669, rfl⟩ := he669.open
                        replace hR := hR0655  hy669
                        refine k632 _ _ ?_; clear k632
                        refine W.seq_k fun _ k670 => ?_
                        refine W.regionD FNetHands.mixed [(0, true), (1, true), (2, true), (3, true), (4, true), (5, true), (6, true), (7, true), (8, true), (9, true), (10, true), (11, true), (12, true), (13, true), (14, true), (15, true), (16, true), (17, true), (18, true), (19, true), (20, true), (21, true), (22, true), (23, true), (24, true)] (by kernel_rfl) ?_
                        have h671 := h669.drew
                        refine Plan.move_slice rfl rfl <| Plan.move_int rfl rfl <| Plan.idxSlO (j := 2) (o' := 8) FNetHands.sl57 rfl rfl rfl (by omega) rfl <| Plan.fieldAddr0 FNetHands.fld60_0 rfl rfl <| Plan.load0 h671 15 rfl rfl rfl (by omega) FNetHands.sc3 <| Plan.move_int rfl rfl ?_
                        by_cases hc672 : mark2 ≠ mark2
                        ·
                         replace hR := ifT hR hc672
                         refine Plan.cmpV (a := (mark2 : Int)) (b := (mark2 : Int)) (p := mark2 ≠ mark2) (v := true) rfl rfl rfl rfl icmp_ne (decide_eq_true hc672) <| Plan.move_bool rfl rfl <| Plan.passed rfl <| Plan.passed rfl <| Plan.passed rfl <| Plan.passed rfl <| Plan.passed rfl <| Plan.passed rfl ?_
                         refine Plan.passed rfl <| Plan.passed rfl <| Plan.passed rfl <| Plan.passed rfl <| Plan.passed rfl <| Plan.passed rfl <| Plan.passed rfl <| Plan.passed rfl ?_
                         refine Plan.passed rfl <| Plan.passed rfl <| Plan.pickTb rfl rfl rfl <| Plan.nil (k670 _ _ ?_); clear k670
                         refine W.condT rfl ?_
                         refine W.seq_k fun _ k673 => W.regionT [(0, true)] (by kernel_rfl) ?_
                         refine Plan.assign_bool rfl rfl <| Plan.nil (k673 _ _ ?_); clear k673
                         refine W.ret (blockR_ret (thenR_ret (thenR_ret (blockR_ret (thenR_ret (finR_ret ?_))))))
                         have h674 := St.pickT (C := [_, _, _, _, _, _, _, _, _, _, _, _, _, _, _, _, _, _, _, _]) h671 [] (by decide)
                         simp only [pick, zfc, zfn, zgz, zgs, zca, zna] at h674
                         have h675 : St B w0 _ _ := St.mpick (N := [mapR kvI D60 [] m5 ([(1, (1, 2, 1, ((a33, (seg ((([] : List Byte) ++ (([1#8, 2#8] : List Byte) ++ (seg b1 0 (min b1.length 40)))) ++ ([7#8, 7#8, 7#8] : List Byte)) 0 ((([1#8, 2#8] : List Byte) ++ (seg b1 0 (min b1.length 40))).length)).length, cap33) : Option Addr × Nat × Nat)))] : List (Int × Int × Int × Int × (Option Addr × Nat × Nat)))]) (N' := []) h674 [] (by decide) rfl
                         subst r
                         refine RetOk.mk (.tmp_bool rfl .nil) ?_
                         exact ⟨rfl, h675⟩
                        ·
                         replace hR := ifF hR hc672
                         refine Plan.cmpV (a := (mark2 : Int)) (b := (mark2 : Int)) (p := mark2 ≠ mark2) (v := false) rfl rfl rfl rfl icmp_ne (decide_eq_false hc672) <| Plan.move_bool rfl rfl <| Plan.move_slice rfl rfl <| Plan.move_int rfl rfl <| Plan.idxLVS (D := D23) (j := 2) h671 (LO.lvf D23_flat ho248 2 rfl) FNetHands.sl61 rfl rfl rfl (show 2 < 3 by decide) ?_
                         refine Plan.loadLV1 (D := D23) (X := (((([] : List (Option Addr × Nat × Nat)) ++ ([((a225, (m125 ++ ([(BitVec.ofInt 8 (w64 (mark2 + 9)))] : List Byte)).length, cap225) : Option Addr × Nat × Nat)] : List (Option Addr × Nat × Nat))) ++ ([((a235, (m164 ++ ([(BitVec.ofInt 8 (w64 (mark2 + 9)))] : List Byte)).length, cap235) : Option Addr × Nat × Nat)] : List (Option Addr × Nat × Nat))) ++ ([((a244, (m203 ++ ([(BitVec.ofInt 8 (w64 (mark2 + 9)))] : List Byte)).length, cap244) : Option Addr × Nat × Nat)] : List (Option Addr × Nat × Nat)))) (j := 2) h671 ((none, 0, 0) : Option Addr × Nat × Nat) (fun _ x => .slice x.1 x.2.1 x.2.2) (LO.lvf D23_flat ho248 2 rfl) rfl rfl (show 2 < 3 by decide) rfl (fun _ _ => rfl) FNetHands.sc23 fun b676 r676 hs676 hr676 => ?_
                         refine Plan.move_slice rfl rfl <| Plan.move_int rfl rfl <| Plan.idxLVS (D := D23) (j := 2) h671 (LO.lvf D23_flat ho248 2 rfl) FNetHands.sl61 rfl rfl rfl (show 2 < 3 by decide) ?_
                         refine Plan.loadLV1 (D := D23) (X := (((([] : List (Option Addr × Nat × Nat)) ++ ([((a225, (m125 ++ ([(BitVec.ofInt 8 (w64 (mark2 + 9)))] : List Byte)).length, cap225) : Option Addr × Nat × Nat)] : List (Option Addr × Nat × Nat))) ++ ([((a235, (m164 ++ ([(BitVec.ofInt 8 (w64 (mark2 + 9)))] : List Byte)).length, cap235) : Option Addr × Nat × Nat)] : List (Option Addr × Nat × Nat))) ++ ([((a244, (m203 ++ ([(BitVec.ofInt 8 (w64 (mark2 + 9)))] : List Byte)).length, cap244) : Option Addr × Nat × Nat)] : List (Option Addr × Nat × Nat)))) (j := 2) h671 ((none, 0, 0) : Option Addr × Nat × Nat) (fun _ x => .slice x.1 x.2.1 x.2.2) (LO.lvf D23_flat ho248 2 rfl) rfl rfl (show 2 < 3 by decide) rfl (fun _ _ => rfl) FNetHands.sc23 fun b677 r677 hs677 hr677 => ?_
                         refine Plan.len FNetHands.isl23 rfl rfl ?_
                         obtain ⟨hc678, hR⟩ := hR
                         refine Plan.subI (a := (((m203 ++ ([(BitVec.ofInt 8 (w64 (mark2 + 9)))] : List Byte)).length : Nat) : Int)) (b := 1) rfl rfl rfl (by omega) ?_
                         obtain ⟨hc679, hR⟩ := hR
                         refine Plan.idxVS (j := ((((m203 ++ ([(BitVec.ofInt 8 (w64 (mark2 + 9)))] : List Byte)).length : Nat) : Int) - 1).toNat) h671 (ho244.bx 0 rfl) FNetHands.sl23 rfl rfl (congrArg (Value.int .i64) (Int.toNat_of_nonneg hc679.1).symm) (toNat_lt hc679.1 hc679.2) ?_
                         refine Plan.loadV (j := ((((m203 ++ ([(BitVec.ofInt 8 (w64 (mark2 + 9)))] : List Byte)).length : Nat) : Int) - 1).toNat) h671 (ho244.bx 0 rfl) rfl rfl (toNat_lt hc679.1 hc679.2) FNetHands.sc5 fun r680 hr680 => ?_
                         refine Plan.move_int rfl rfl <| Plan.addW (a := mark2) (b := 9) rfl rfl rfl <| Plan.convIU .u8 (a := (w64 (mark2 + 9))) FNetHands.u5 FNetHands.some3 rfl rfl <| Plan.cmpP (a := ((lit (m203 ++ ([(BitVec.ofInt 8 (w64 (mark2 + 9)))] : List Byte)) (((((m203 ++ ([(BitVec.ofInt 8 (w64 (mark2 + 9)))] : List Byte)).length : Nat) : Int) - 1).toNat)).toNat : Int)) (b := ((BitVec.ofInt 8 (w64 (mark2 + 9))).toNat : Int)) (p := (lit (m203 ++ ([(BitVec.ofInt 8 (w64 (mark2 + 9)))] : List Byte)) (((((m203 ++ ([(BitVec.ofInt 8 (w64 (mark2 + 9)))] : List Byte)).length : Nat) : Int) - 1).toNat)) ≠ (BitVec.ofInt 8 (w64 (mark2 + 9)))) rfl rfl rfl rfl icmp_neU <| Plan.pickFb rfl rfl rfl <| Plan.nil (k670 _ _ ?_); clear k670
                         by_cases hc681 : (lit (m203 ++ ([(BitVec.ofInt 8 (w64 (mark2 + 9)))] : List Byte)) (((((m203 ++ ([(BitVec.ofInt 8 (w64 (mark2 + 9)))] : List Byte)).length : Nat) : Int) - 1).toNat)) ≠ (BitVec.ofInt 8 (w64 (mark2 + 9)))
                         ·
                          replace hR := ifT hR hc681
                          refine W.condT (congrArg Value.bool (decide_eq_true hc681)) ?_
                          refine W.seq_k fun _ k682 => W.regionT [(0, true)] (by kernel_rfl) ?_
                          refine Plan.assign_bool rfl rfl <| Plan.nil (k682 _ _ ?_); clear k682
                          refine W.ret (blockR_ret (thenR_ret (thenR_ret (blockR_ret (thenR_ret (finR_ret ?_))))))
                          have h683 := St.pickT (C := [_, _, _, _, _, _, _, _, _, _, _, _, _, _, _, _, _, _, _, _]) h671 [] (by decide)
                          simp only [pick, zfc, zfn, zgz, zgs, zca, zna] at h683
                          have h684 : St B w0 _ _ := St.mpick (N := [mapR kvI D60 [] m5 ([(1, (1, 2, 1, ((a33, (seg ((([] : List Byte) ++ (([1#8, 2#8] : List Byte) ++ (seg b1 0 (min b1.length 40)))) ++ ([7#8, 7#8, 7#8] : List Byte)) 0 ((([1#8, 2#8] : List Byte) ++ (seg b1 0 (min b1.length 40))).length)).length, cap33) : Option Addr × Nat × Nat)))] : List (Int × Int × Int × Int × (Option Addr × Nat × Nat)))]) (N' := []) h683 [] (by decide) rfl
                          subst r
                          refine RetOk.mk (.tmp_bool rfl .nil) ?_
                          exact ⟨rfl, h684⟩
                         ·
                          replace hR := ifF hR hc681
                          refine W.condF (congrArg Value.bool (decide_eq_false hc681)) ?_
                          refine W.skip ?_
                          refine blockR_norm ?_
                          refine k631 _ _ ?_; clear k631
                          refine W.regionT [(0, true), (1, true), (2, true)] (by kernel_rfl) ?_
                          refine Plan.move_int rfl rfl <| Plan.addN (a := 2) (b := 1) rfl rfl rfl (by omega) <| Plan.assign_int rfl rfl <| Plan.nil ?_
                          refine UL.nextT ?_
                          refine W.seq_k fun _ k685 => W.seq_k fun _ k686 => ?_
                          refine W.regionT [(0, true), (1, true)] (by kernel_rfl) ?_
                          refine Plan.move_int rfl rfl <| Plan.cmpP (a := (3 : Int)) (b := (3 : Int)) (p := (3 : Nat) < 3) rfl rfl rfl rfl icmp_ltN <| Plan.nil (k686 _ _ ?_); clear k686
                          refine W.condF rfl ?_
                          refine W.exit (thenR_exit (thenR_exit (blockR_here ?_)))
                          refine k514 _ _ ?_; clear k514
                          refine W.seq_k fun _ k687 => W.regionT [(0, true)] (by kernel_rfl) ?_
                          refine Plan.assign_bool rfl rfl <| Plan.nil (k687 _ _ ?_); clear k687
                          refine W.ret (finR_ret ?_)
                          have h688 := St.pickT (C := [_, _, _, _, _, _, _, _, _, _, _, _, _, _, _, _, _, _, _, _]) h671 [] (by decide)
                          simp only [pick, zfc, zfn, zgz, zgs, zca, zna] at h688
                          have h689 : St B w0 _ _ := St.mpick (N := [mapR kvI D60 [] m5 ([(1, (1, 2, 1, ((a33, (seg ((([] : List Byte) ++ (([1#8, 2#8] : List Byte) ++ (seg b1 0 (min b1.length 40)))) ++ ([7#8, 7#8, 7#8] : List Byte)) 0 ((([1#8, 2#8] : List Byte) ++ (seg b1 0 (min b1.length 40))).length)).length, cap33) : Option Addr × Nat × Nat)))] : List (Int × Int × Int × Int × (Option Addr × Nat × Nat)))]) (N' := []) h688 [] (by decide) rfl
                          subst r
                          refine RetOk.mk (.tmp_bool rfl .nil) ?_
                          exact ⟨rfl, h689⟩
              ·
               replace hR := ifF hR hc501
               refine Plan.neStrV (v := false) rfl rfl rfl (decide_eq_false hc501) <| Plan.pickFb rfl rfl rfl <| Plan.move_bool rfl rfl <| Plan.passed rfl <| Plan.passed rfl <| Plan.passed rfl <| Plan.passed rfl <| Plan.passed rfl ?_
               refine Plan.passed rfl <| Plan.passed rfl <| Plan.passed rfl <| Plan.passed rfl <| Plan.passed rfl <| Plan.pickTb rfl rfl rfl <| Plan.move_bool rfl rfl <| Plan.passed rfl ?_
               refine Plan.passed rfl <| Plan.passed rfl <| Plan.passed rfl <| Plan.passed rfl <| Plan.passed rfl <| Plan.passed rfl <| Plan.passed rfl <| Plan.pickTb rfl rfl rfl ?_
               refine Plan.nil (k498 _ _ ?_); clear k498
               refine W.condT rfl ?_
               refine W.seq_k fun _ k690 => W.regionT [(0, true)] (by kernel_rfl) ?_
               refine Plan.assign_bool rfl rfl <| Plan.nil (k690 _ _ ?_); clear k690
               refine W.ret (thenR_ret (finR_ret ?_))
               have h691 := St.pickT (C := [_, _, _, _, _, _, _, _, _, _, _, _, _, _, _, _, _, _, _, _, _, _, _, _, _, _, _, _, _, _, _, _, _, _, _, _, _]) h483 [] (by decide)
               simp only [pick, zfc, zfn, zgz, zgs, zca, zna] at h691
               have h692 : St B w0 _ _ := St.mpick (N := [mapR kvI D60 [] m5 ([(1, (1, 2, 1, ((a33, (seg ((([] : List Byte) ++ (([1#8, 2#8] : List Byte) ++ (seg b1 0 (min b1.length 40)))) ++ ([7#8, 7#8, 7#8] : List Byte)) 0 ((([1#8, 2#8] : List Byte) ++ (seg b1 0 (min b1.length 40))).length)).length, cap33) : Option Addr × Nat × Nat)))] : List (Int × Int × Int × Int × (Option Addr × Nat × Nat)))]) (N' := []) h691 [] (by decide) rfl
               subst r
               refine RetOk.mk (.tmp_bool rfl .nil) ?_
               exact ⟨rfl, h692⟩
            ·
             replace hR := ifF hR hc438
             refine W.condT (congrArg Value.bool (congrArg Bool.not (Bool.eq_false_iff.2 hc438))) ?_
             refine W.seq_k fun _ k693 => W.regionT [(0, true)] (by kernel_rfl) ?_
             refine Plan.assign_bool rfl rfl <| Plan.nil (k693 _ _ ?_); clear k693
             refine W.ret (thenR_ret (finR_ret ?_))
             have h694 := St.pickT (C := [_, _, _, _, _, _, _, _, _, _, _, _, _, _, _, _, _, _, _, _, _, _, _, _, _, _, _, _, _, _, _]) h437 [] (by decide)
             simp only [pick, zfc, zfn, zgz, zgs, zca, zna] at h694
             have h695 : St B w0 _ _ := St.mpick (N := [mapR kvI D60 [] m5 ([(1, (1, 2, 1, ((a33, (seg ((([] : List Byte) ++ (([1#8, 2#8] : List Byte) ++ (seg b1 0 (min b1.length 40)))) ++ ([7#8, 7#8, 7#8] : List Byte)) 0 ((([1#8, 2#8] : List Byte) ++ (seg b1 0 (min b1.length 40))).length)).length, cap33) : Option Addr × Nat × Nat))), (2, (2, 1, 2, ((a37, (seg ((([] : List Byte) ++ (([1#8, 2#8] : List Byte) ++ (seg b1 0 (min b1.length 40)))) ++ ([7#8, 7#8, 7#8] : List Byte)) 0 ((([1#8, 2#8] : List Byte) ++ (seg b1 0 (min b1.length 40))).length)).length, cap37) : Option Addr × Nat × Nat)))] : List (Int × Int × Int × Int × (Option Addr × Nat × Nat)))]) (N' := []) h694 [] (by decide) rfl
             subst r
             refine RetOk.mk (.tmp_bool rfl .nil) ?_
             exact ⟨rfl, h695⟩
          ·
           replace hR := ifF hR hc405
           obtain rfl : b387 = false := Bool.eq_false_iff.2 hc405
           refine Plan.notF rfl rfl <| Plan.pickFb rfl rfl rfl <| Plan.move_bool rfl rfl <| Plan.passed rfl <| Plan.passed rfl <| Plan.passed rfl <| Plan.passed rfl <| Plan.pickTb rfl rfl rfl ?_
           refine Plan.nil (k369 _ _ ?_); clear k369
           refine W.condT rfl ?_
           refine W.seq_k fun _ k696 => W.regionT [(0, true)] (by kernel_rfl) ?_
           refine Plan.assign_bool rfl rfl <| Plan.nil (k696 _ _ ?_); clear k696
           refine W.ret (thenR_ret (finR_ret ?_))
           have h697 := St.pickT (C := [_, _, _, _, _, _, _, _, _, _, _, _, _, _, _, _, _, _, _, _, _, _, _, _, _, _, _, _, _, _, _, _, _, _, _, _, _, _, _, _, _, _, _, _, _, _]) h404 [] (by decide)
           simp only [pick, zfc, zfn, zgz, zgs, zca, zna] at h697
           have h698 : St B w0 _ _ := St.mpick (N := [mapR kvI D60 [] m5 ([(1, (1, 2, 1, ((a33, (seg ((([] : List Byte) ++ (([1#8, 2#8] : List Byte) ++ (seg b1 0 (min b1.length 40)))) ++ ([7#8, 7#8, 7#8] : List Byte)) 0 ((([1#8, 2#8] : List Byte) ++ (seg b1 0 (min b1.length 40))).length)).length, cap33) : Option Addr × Nat × Nat))), (2, (2, 1, 2, ((a37, (seg ((([] : List Byte) ++ (([1#8, 2#8] : List Byte) ++ (seg b1 0 (min b1.length 40)))) ++ ([7#8, 7#8, 7#8] : List Byte)) 0 ((([1#8, 2#8] : List Byte) ++ (seg b1 0 (min b1.length 40))).length)).length, cap37) : Option Addr × Nat × Nat)))] : List (Int × Int × Int × Int × (Option Addr × Nat × Nat)))]) (N' := []) h697 [] (by decide) rfl
           subst r
           refine RetOk.mk (.tmp_bool rfl .nil) ?_
           exact ⟨rfl, h698⟩
        ·
         replace hR := ifF hR hc372
         refine Plan.neStrV (v := false) rfl rfl rfl (decide_eq_false hc372) <| Plan.pickFb rfl rfl rfl <| Plan.move_bool rfl rfl <| Plan.passed rfl <| Plan.passed rfl <| Plan.passed rfl <| Plan.passed rfl <| Plan.pickTb rfl rfl rfl ?_
         refine Plan.move_bool rfl rfl <| Plan.passed rfl <| Plan.passed rfl <| Plan.passed rfl <| Plan.passed rfl <| Plan.pickTb rfl rfl rfl <| Plan.nil (k369 _ _ ?_); clear k369
         refine W.condT rfl ?_
         refine W.seq_k fun _ k699 => W.regionT [(0, true)] (by kernel_rfl) ?_
         refine Plan.assign_bool rfl rfl <| Plan.nil (k699 _ _ ?_); clear k699
         refine W.ret (thenR_ret (finR_ret ?_))
         have h700 := St.pickT (C := [_, _, _, _, _, _, _, _, _, _, _, _, _, _, _, _, _, _, _, _, _, _, _, _, _, _, _, _, _, _, _, _, _, _, _, _, _, _, _, _, _, _, _, _, _, _, _, _, _, _, _, _, _, _, _, _, _, _, _, _, _]) h294 [] (by decide)
         simp only [pick, zfc, zfn, zgz, zgs, zca, zna] at h700
         have h701 : St B w0 _ _ := St.mpick (N := [mapR kvI D60 [] m5 ([(1, (1, 2, 1, ((a33, (seg ((([] : List Byte) ++ (([1#8, 2#8] : List Byte) ++ (seg b1 0 (min b1.length 40)))) ++ ([7#8, 7#8, 7#8] : List Byte)) 0 ((([1#8, 2#8] : List Byte) ++ (seg b1 0 (min b1.length 40))).length)).length, cap33) : Option Addr × Nat × Nat))), (2, (2, 1, 2, ((a37, (seg ((([] : List Byte) ++ (([1#8, 2#8] : List Byte) ++ (seg b1 0 (min b1.length 40)))) ++ ([7#8, 7#8, 7#8] : List Byte)) 0 ((([1#8, 2#8] : List Byte) ++ (seg b1 0 (min b1.length 40))).length)).length, cap37) : Option Addr × Nat × Nat)))] : List (Int × Int × Int × Int × (Option Addr × Nat × Nat)))]) (N' := []) h700 [] (by decide) rfl
         subst r
         refine RetOk.mk (.tmp_bool rfl .nil) ?_
         exact ⟨rfl, h701⟩
       ·
        replace hR := ifF hR hc285
        refine W.condT (congrArg Value.bool (congrArg Bool.not (Bool.eq_false_iff.2 hc285))) ?_
        refine W.seq_k fun _ k702 => W.regionT [(0, true)] (by kernel_rfl) ?_
        refine Plan.assign_bool rfl rfl <| Plan.nil (k702 _ _ ?_); clear k702
        refine W.ret (thenR_ret (finR_ret ?_))
        have h703 := St.pickT (C := [_, _, _, _, _, _, _, _, _, _, _, _, _, _, _, _, _, _, _, _, _, _, _, _, _, _, _, _, _, _, _, _, _, _, _, _, _, _, _, _, _, _]) h284 [] (by decide)
        simp only [pick, zfc, zfn, zgz, zgs, zca, zna] at h703
        have h704 : St B w0 _ _ := St.mpick (N := [mapR kvI D60 [] m5 ([(0, (0, 1, 2, ((a27, (seg ((([] : List Byte) ++ (([1#8, 2#8] : List Byte) ++ (seg b1 0 (min b1.length 40)))) ++ ([7#8, 7#8, 7#8] : List Byte)) 0 ((([1#8, 2#8] : List Byte) ++ (seg b1 0 (min b1.length 40))).length)).length, cap27) : Option Addr × Nat × Nat))), (1, (1, 2, 1, ((a33, (seg ((([] : List Byte) ++ (([1#8, 2#8] : List Byte) ++ (seg b1 0 (min b1.length 40)))) ++ ([7#8, 7#8, 7#8] : List Byte)) 0 ((([1#8, 2#8] : List Byte) ++ (seg b1 0 (min b1.length 40))).length)).length, cap33) : Option Addr × Nat × Nat))), (2, (2, 1, 2, ((a37, (seg ((([] : List Byte) ++ (([1#8, 2#8] : List Byte) ++ (seg b1 0 (min b1.length 40)))) ++ ([7#8, 7#8, 7#8] : List Byte)) 0 ((([1#8, 2#8] : List Byte) ++ (seg b1 0 (min b1.length 40))).length)).length, cap37) : Option Addr × Nat × Nat)))] : List (Int × Int × Int × Int × (Option Addr × Nat × Nat)))]) (N' := []) h703 [] (by decide) rfl
        subst r
        refine RetOk.mk (.tmp_bool rfl .nil) ?_
        exact ⟨rfl, h704⟩
 ·
  replace hR := ifF hR hc49
  refine W.condT (congrArg Value.bool (congrArg Bool.not (decide_eq_false hc49))) ?_
  refine W.seq_k fun _ k705 => W.regionT [(0, true)] (by kernel_rfl) ?_
  refine Plan.assign_bool rfl rfl <| Plan.nil (k705 _ _ ?_); clear k705
  refine W.ret (thenR_ret (finR_ret ?_))
  have h706 := St.pickT (C := [_, _, _, _, _, _, _, _, _, _]) h37 [] (by decide)
  simp only [pick, zfc, zfn, zgz, zgs, zca, zna] at h706
  have h707 : St B w0 _ _ := St.mpick (N := [mapR kvI D60 [] m5 ([(0, (0, 1, 2, ((a27, (seg ((([] : List Byte) ++ (([1#8, 2#8] : List Byte) ++ (seg b1 0 (min b1.length 40)))) ++ ([7#8, 7#8, 7#8] : List Byte)) 0 ((([1#8, 2#8] : List Byte) ++ (seg b1 0 (min b1.length 40))).length)).length, cap27) : Option Addr × Nat × Nat))), (1, (1, 2, 1, ((a33, (seg ((([] : List Byte) ++ (([1#8, 2#8] : List Byte) ++ (seg b1 0 (min b1.length 40)))) ++ ([7#8, 7#8, 7#8] : List Byte)) 0 ((([1#8, 2#8] : List Byte) ++ (seg b1 0 (min b1.length 40))).length)).length, cap33) : Option Addr × Nat × Nat))), (2, (2, 1, 2, ((a37, (seg ((([] : List Byte) ++ (([1#8, 2#8] : List Byte) ++ (seg b1 0 (min b1.length 40)))) ++ ([7#8, 7#8, 7#8] : List Byte)) 0 ((([1#8, 2#8] : List Byte) ++ (seg b1 0 (min b1.length 40))).length)).length, cap37) : Option Addr × Nat × Nat)))] : List (Int × Int × Int × Int × (Option Addr × Nat × Nat)))]) (N' := []) h706 [] (by decide) rfl
  subst r
  refine RetOk.mk (.tmp_bool rfl .nil) ?_
  exact ⟨rfl, h707⟩
end Go.Proofs.Ytbkgblhmlenocaa
