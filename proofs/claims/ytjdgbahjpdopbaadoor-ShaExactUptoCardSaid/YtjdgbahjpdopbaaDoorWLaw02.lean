/-
 WALKS of the package's functions, printed by this session's own program (auto.py).
-/
import Derived.Test.YtjdgbahjpdopbaaDoorProg
import Derived.Test.YtjdgbahjpdopbaaDoorEb
import Derived.Test.YtjdgbahjpdopbaaDoorRLaw02
import Derived.Test.YtjdgbahjpdopbaaDoorEls
import Derived.Test.YtjdgbahjpdopbaaDoorWSha
namespace Go.Proofs.YtjdgbahjpdopbaaDoor
set_option linter.unusedSimpArgs false
set_option linter.unusedVariables false
set_option linter.unusedSectionVars false
set_option maxRecDepth 8000
set_option maxHeartbeats 1000000
open Go Go.LW
theorem FLaw02.call23 : callB Tryd.prog 23 = true := by kernel_rfl
theorem FLaw02.ptr37 : ptrB Tryd.prog 37 = true := by kernel_rfl
theorem FLaw02.zv5 : (Tryd.prog.info? 5).bind (·.zero) = some (VU .u8 0#8) := by kernel_rfl
theorem FLaw02.slu22 : Tryd.prog.underlying 22 = some (.slice 5) := by kernel_rfl
theorem FLaw02.sz5 : szT Tryd.prog 5 1 = true := by kernel_rfl
theorem FLaw02.sl22 : slB Tryd.prog 22 1 = true := by kernel_rfl
theorem FLaw02.call25 : callB Tryd.prog 25 = true := by kernel_rfl
theorem FLaw02.call26 : callB Tryd.prog 26 = true := by kernel_rfl
theorem FLaw02.el22 : elD Tryd.prog 22 = some (1, 1, some (VU .u8 0#8)) := by kernel_rfl
theorem FLaw02.call52 : callB Tryd.prog 52 = true := by kernel_rfl
theorem FLaw02.u5 : Tryd.prog.underlying 5 = some (.int .u8) := by kernel_rfl
theorem FLaw02.str9 : Tryd.prog.underlying 9 = some .string := by kernel_rfl
theorem FLaw02.call71 : callB Tryd.prog 71 = true := by kernel_rfl
theorem lethelaw02_moves_ok {B : Nat} {w0 w : World} {L : List Rg} {iG0 : Nat} (hG0 : L[iG0]? = some ⟨some 0, 0, 64, fun q => VU .u32 (K256 q), false⟩) {iG1 : Nat} (hG1 : L[iG1]? = some ⟨some 1, 0, 8, fun q => VU .u32 (H256 q), false⟩)  {r : Bool} (hR : lethelaw02_moves r) (HST : St B w0 (L) w) :
  Calls Tryd.prog 17 #[] w fun e w' => e = .returned (.bool r) ∧ St B w0 (L) w' := by
 refine W.enter 11 Tryd.func17 rfl rfl rfl ?_
 unfold lethelaw02_moves at hR
 refine W.seq_k fun _ k1 => W.regionT [(0, true)] (by kernel_rfl) ?_
 refine Plan.assign_bool rfl rfl <| Plan.nil (k1 _ _ ?_); clear k1
 refine W.seq_k fun _ k2 => W.regionT [(0, false), (1, true)] (by kernel_rfl) ?_
 obtain ⟨x_4, x_5, x_6, hr3, hR⟩ := hR
 refine Plan.call (vs := []) rfl FLaw02.call23 rfl (sha_New_ok (iG1 := iG1 + 0) hG1 hr3 HST) ?_
 rintro _ w8 ⟨b0_7, rfl, h8⟩
 refine ⟨_, rfl, .inl ⟨PIn.keep PIn.nil h8, ?_⟩⟩
 refine Plan.assign_ptr rfl rfl <| Plan.nil (k2 _ _ ?_); clear k2
 refine W.seq_k fun _ k9 => W.seq_k fun _ k10 => ?_
 refine W.regionT [(0, true), (1, true)] (by kernel_rfl) ?_
 refine Plan.move_ptr rfl rfl <| Plan.eqNil (b := false) FLaw02.ptr37 rfl rfl rfl rfl <| Plan.nil (k10 _ _ ?_); clear k10
 refine W.condF rfl ?_
 refine W.skip ?_
 refine k9 _ _ ?_; clear k9
 refine W.seq_k fun _ k11 => W.regionT [(0, true), (1, false), (2, false)] (by kernel_rfl) ?_
 refine Plan.move_ptr rfl rfl ?_
 refine Plan.buildSlice h8 (ps := [(3, fun q => VU .u8 (lit ([1#8, 2#8, 3#8] : List Byte) q))]) FLaw02.slu22 FLaw02.sz5 FLaw02.zv5 (by decide) (by decide) rfl rfl (by kernel_rfl) (EffO.keep PIn.nil) fun b12 w12 hb12 h12 => ?_
 simp only [rngs, List.cons_append, List.nil_append] at h12
 have ho12 : Ow (some ⟨b12, 0, none⟩) (some b12) ([1#8, 2#8, 3#8] : List Byte).length 3 (lit ([1#8, 2#8, 3#8] : List Byte)) ([1#8, 2#8, 3#8] : List Byte) := ⟨.inr ⟨b12, rfl, rfl⟩, Nat.le_refl _, rfl, fun q _ => rfl⟩
 have h13 := St.pickT (C := [_, _, _, _]) h12 [1, 2, 3, 0] (by decide)
 simp only [pick, zfc, zfn, zgz, zgs, zca, zna] at h13
 obtain ⟨x_15, x_16, x_17, hr14, hR⟩ := hR
 refine Plan.call (vs := [.pointer (some ⟨b0_7, 0, none⟩), .slice (some ⟨b12, 0, none⟩) (([1#8, 2#8, 3#8] : List Byte).length) 3]) rfl FLaw02.call25 rfl (sha_Hash_Write_ok (iG0 := iG0 + 1) hG0 (by exact (ho12.bx 0 rfl)) hr14 h13) ?_
 rintro _ w18 ⟨rfl, h18⟩
 refine ⟨_, rfl, .inl ⟨PIn.keep PIn.nil h18, ?_⟩⟩
 refine Plan.nil (k11 _ _ ?_); clear k11
 refine W.seq_k fun _ k19 => W.regionT [(0, true), (1, false), (2, true), (3, true)] (by kernel_rfl) ?_
 refine Plan.move_ptr rfl rfl ?_
 obtain ⟨x_21, hr20, hR⟩ := hR
 refine Plan.call (vs := [.pointer (some ⟨b0_7, 0, none⟩)]) rfl FLaw02.call26 rfl (sha_Hash_Len_ok  hr20 h18) ?_
 rintro _ w22 ⟨rfl, h22⟩
 refine ⟨_, rfl, .inl ⟨PIn.keep PIn.nil h22, ?_⟩⟩
 refine Plan.cmpP (a := (x_21 : Int)) (b := (3 : Int)) (p := x_21 = 3) rfl rfl rfl rfl icmp_eq <| Plan.assign_bool rfl rfl <| Plan.nil (k19 _ _ ?_); clear k19
 refine W.ret (finR_ret ?_)
 have h23 := St.pickT (C := [_, _, _, _]) h22 [] (by decide)
 simp only [pick, zfc, zfn, zgz, zgs, zca, zna] at h23
 subst r
 refine RetOk.mk (.tmp_bool rfl .nil) ?_
 exact ⟨rfl, h23⟩
theorem lethelaw02_Room_ok {B : Nat} {w0 w : World} {L : List Rg} {b1 : List Byte} {ab1 : Option Addr} {nb1 cb1 ib1 : Nat} (hb1 : Bx L ib1 ab1 nb1 cb1 b1) {r : (List Byte)} (hR : lethelaw02_Room b1 r) (HST : St B w0 (L) w) :
  Calls Tryd.prog 52 #[.slice ab1 nb1 cb1] w fun e w' => ∃ ay0 : Option Addr, ∃ py0 : Option Nat, ∃ ny0 : Nat, ∃ cy0 : Nat, ∃ Fy0 : Nat → Byte, e = .returned (.slice ay0 ny0 cy0) ∧ St B w0 (⟨py0, 0, cy0, fun q => VU .u8 (Fy0 q), true⟩ :: L) w' ∧ Ow ay0 py0 ny0 cy0 Fy0 r := by
 refine W.enter 7 Tryd.func52 rfl rfl rfl ?_
 unfold lethelaw02_Room at hR
 have eb1 := hb1.hl; subst eb1
 refine W.seq_k fun _ k2 => W.regionT [(0, true)] (by kernel_rfl) ?_
 refine Plan.assign_slice rfl rfl <| Plan.nil (k2 _ _ ?_); clear k2
 refine W.seq_k fun _ k3 => W.regionT [(0, true), (1, false), (2, false), (3, false), (4, true)] (by kernel_rfl) ?_
 refine Plan.move_slice rfl rfl ?_
 have h4 := HST.nilR
 obtain ⟨hc6, hR⟩ := hR
 refine Plan.appendO (X := ([] : List Byte)) (Y := b1) h4 0 Ow.nil FLaw02.el22 FLaw02.sl22 rfl rfl rfl rfl (hb1.app [_]) hc6 (fun _ => EffO.keep PIn.nil) fun a5 pb5 cap5 F5 w5 ho5 h5 => ?_
 simp only [zca, zna, zsz, zss] at h5
 refine Plan.buildSlice h5 (ps := [(3, fun q => VU .u8 (lit ([209#8, 210#8, 211#8] : List Byte) q))]) FLaw02.slu22 FLaw02.sz5 FLaw02.zv5 (by decide) (by decide) rfl rfl (by kernel_rfl) (EffO.keep PIn.nil) fun b7 w7 hb7 h7 => ?_
 simp only [rngs, List.cons_append, List.nil_append] at h7
 have ho7 : Ow (some ⟨b7, 0, none⟩) (some b7) ([209#8, 210#8, 211#8] : List Byte).length 3 (lit ([209#8, 210#8, 211#8] : List Byte)) ([209#8, 210#8, 211#8] : List Byte) := ⟨.inr ⟨b7, rfl, rfl⟩, Nat.le_refl _, rfl, fun q _ => rfl⟩
 obtain ⟨hc9, hR⟩ := hR
 refine Plan.appendO (X := (([] : List Byte) ++ b1)) (Y := ([209#8, 210#8, 211#8] : List Byte)) h7 1 ho5 FLaw02.el22 FLaw02.sl22 rfl rfl rfl rfl (ho7.bx 0 rfl) hc9 (fun _ => EffO.keep PIn.nil) fun a8 pb8 cap8 F8 w8 ho8 h8 => ?_
 simp only [zca, zna, zsz, zss] at h8
 refine Plan.assign_slice rfl rfl <| Plan.nil (k3 _ _ ?_); clear k3
 refine W.ret (finR_ret ?_)
 have h10 := St.pickT (C := [_, _]) h8 [1] (by decide)
 simp only [pick, zfc, zfn, zgz, zgs, zca, zna] at h10
 subst r
 refine RetOk.mk (.tmp_slice rfl .nil) ?_
 exact ⟨a8, pb8, ((([] : List Byte) ++ b1) ++ ([209#8, 210#8, 211#8] : List Byte)).length, cap8, F8, rfl, h10, ho8⟩
theorem lethelaw02_Eq_ok {B : Nat} {w0 w : World} {L : List Rg} {a1 : List Byte} {aa1 : Option Addr} {na1 ca1 ia1 : Nat} (ha1 : Bx L ia1 aa1 na1 ca1 a1) {b2 : List Byte} {ab2 : Option Addr} {nb2 cb2 ib2 : Nat} (hb2 : Bx L ib2 ab2 nb2 cb2 b2) {r : Bool} (hR : lethelaw02_Eq a1 b2 r) (HST : St B w0 (L) w) :
  Calls Tryd.prog 71 #[.slice aa1 na1 ca1, .slice ab2 nb2 cb2] w fun e w' => e = .returned (.bool r) ∧ St B w0 (L) w' := by
 refine W.enter 10 Tryd.func71 rfl rfl rfl ?_
 unfold lethelaw02_Eq at hR
 have ea1 := ha1.hl; subst ea1
 have eb2 := hb2.hl; subst eb2
 refine W.seq_k fun _ k3 => W.regionT [(0, true)] (by kernel_rfl) ?_
 refine Plan.assign_bool rfl rfl <| Plan.nil (k3 _ _ ?_); clear k3
 refine W.seq_k fun _ k4 => W.regionT [(0, true), (1, true), (2, true), (3, true), (4, true), (5, true)] (by kernel_rfl) ?_
 refine Plan.move_slice rfl rfl ?_
 refine Plan.toStrV HST ha1 FLaw02.slu22 FLaw02.u5 FLaw02.str9 rfl rfl fun r5 hr5 => ?_
 replace hr5 := or_un [] hr5
 refine Plan.move_slice rfl rfl ?_
 refine Plan.toStrV HST hb2 FLaw02.slu22 FLaw02.u5 FLaw02.str9 rfl rfl fun r6 hr6 => ?_
 replace hr6 := or_un [] hr6
 refine Plan.eqStrV (v := decide (a1 = b2)) rfl rfl rfl rfl <| Plan.assign_bool rfl rfl <| Plan.nil (k4 _ _ ?_); clear k4
 refine W.ret (finR_ret ?_)
 subst r
 refine RetOk.mk (.tmp_bool rfl .nil) ?_
 exact ⟨rfl, HST⟩
theorem lethelaw02_Kept_ok {B : Nat} {w0 w : World} {L : List Rg} {room1 : List Byte} {aroom1 : Option Addr} {nroom1 croom1 iroom1 : Nat} (hroom1 : Bx L iroom1 aroom1 nroom1 croom1 room1) {b2 : List Byte} {ab2 : Option Addr} {nb2 cb2 ib2 : Nat} (hb2 : Bx L ib2 ab2 nb2 cb2 b2) {r : Bool} (hR : lethelaw02_Kept room1 b2 r) (HST : St B w0 (L) w) :
  Calls Tryd.prog 54 #[.slice aroom1 nroom1 croom1, .slice ab2 nb2 cb2] w fun e w' => e = .returned (.bool r) ∧ St B w0 (L) w' := by
 refine W.enter 9 Tryd.func54 rfl rfl rfl ?_
 unfold lethelaw02_Kept at hR
 have eroom1 := hroom1.hl; subst eroom1
 have eb2 := hb2.hl; subst eb2
 refine W.seq_k fun _ k3 => W.regionT [(0, true)] (by kernel_rfl) ?_
 refine Plan.assign_bool rfl rfl <| Plan.nil (k3 _ _ ?_); clear k3
 refine W.seq_k fun _ k4 => W.regionT [(0, true), (1, true), (2, false), (3, false), (4, true)] (by kernel_rfl) ?_
 refine Plan.move_slice rfl rfl <| Plan.move_slice rfl rfl ?_
 obtain ⟨x_6, hr5, hR⟩ := hR
 refine Plan.call (vs := [.slice ab2 b2.length cb2]) rfl FLaw02.call52 rfl (lethelaw02_Room_ok hb2 hr5 HST) ?_
 rintro _ w12 ⟨ay0_7, py0_8, ny0_9, cy0_10, Fy0_11, rfl, h12, hf12_0⟩
 obtain rfl := hf12_0.hl
 refine ⟨_, rfl, .inl ⟨PIn.keep PIn.nil h12, ?_⟩⟩
 obtain ⟨x_14, hr13, hR⟩ := hR
 refine Plan.call (vs := [.slice aroom1 room1.length croom1, .slice ay0_7 x_6.length cy0_10]) rfl FLaw02.call71 rfl (lethelaw02_Eq_ok (hroom1.app [_]) (by exact (hf12_0.bx 0 rfl)) hr13 h12) ?_
 rintro _ w15 ⟨rfl, h15⟩
 refine ⟨_, rfl, .inl ⟨PIn.keep PIn.nil h15, ?_⟩⟩
 refine Plan.assign_bool rfl rfl <| Plan.nil (k4 _ _ ?_); clear k4
 refine W.ret (finR_ret ?_)
 have h16 := St.pickT (C := [_]) h15 [] (by decide)
 simp only [pick, zfc, zfn, zgz, zgs, zca, zna] at h16
 subst r
 refine RetOk.mk (.tmp_bool rfl .nil) ?_
 exact ⟨rfl, h16⟩
theorem lethelaw02_rest_ok {B : Nat} {w0 w : World} {L : List Rg} {n_1 : Int} {m2 : Int} {r : Int} (hR : lethelaw02_rest n_1 m2 r) (HST : St B w0 (L) w) :
  Calls Tryd.prog 24 #[.int .i64 n_1, .int .i64 m2] w fun e w' => e = .returned (.int .i64 r) ∧ St B w0 (L) w' := by
 refine W.enter 12 Tryd.func24 rfl rfl rfl ?_
 unfold lethelaw02_rest at hR
 refine W.seq_k fun _ k3 => W.regionT [(0, true)] (by kernel_rfl) ?_
 refine Plan.assign_int rfl rfl <| Plan.nil (k3 _ _ ?_); clear k3
 refine W.seq_k fun _ k4 => W.regionT [(0, true), (1, true), (2, true), (3, true), (4, true), (5, true), (6, true), (7, true)] (by kernel_rfl) ?_
 refine Plan.move_int rfl rfl <| Plan.move_int rfl rfl ?_
 obtain ⟨hc5, hR⟩ := hR
 refine Plan.remI (a := n_1) (b := m2) rfl rfl rfl hc5 <| Plan.move_int rfl rfl ?_
 obtain ⟨hc6, hR⟩ := hR
 refine Plan.addI (a := (n_1.tmod m2)) (b := m2) rfl rfl rfl (by omega) <| Plan.move_int rfl rfl ?_
 obtain ⟨hc7, hR⟩ := hR
 refine Plan.remI (a := ((n_1.tmod m2) + m2)) (b := m2) rfl rfl rfl hc7 <| Plan.assign_int rfl rfl <| Plan.nil (k4 _ _ ?_); clear k4
 refine W.ret (finR_ret ?_)
 subst r
 refine RetOk.mk (.tmp_int rfl .nil) ?_
 exact ⟨rfl, HST⟩
end Go.Proofs.YtjdgbahjpdopbaaDoor
