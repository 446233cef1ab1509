/-
 WALKS of the package's functions, printed by this session's own program (auto.py).
-/
import Derived.Test.YtjclppnbbpnfnaaDoorProg
import Derived.Test.YtjclppnbbpnfnaaDoorEb
import Derived.Test.YtjclppnbbpnfnaaDoorRRef03
import Derived.Test.YtjclppnbbpnfnaaDoorEls
import Derived.Test.YtjclppnbbpnfnaaDoorWRef02
namespace Go.Proofs.YtjclppnbbpnfnaaDoor
set_option linter.unusedSimpArgs false
set_option linter.unusedVariables false
set_option linter.unusedSectionVars false
set_option maxRecDepth 8000
set_option maxHeartbeats 1000000
open Go Go.LW
theorem FRef03.mixed : Tryd.prog.follows .mixedOrders = true := by kernel_rfl
theorem FRef03.sc5 : scalarT Tryd.prog 5 = true := by kernel_rfl
theorem FRef03.sz5 : szT Tryd.prog 5 1 = true := by kernel_rfl
theorem FRef03.some5 : (Tryd.prog.underlying 5).isSome = true := by kernel_rfl
theorem FRef03.u3 : Tryd.prog.underlying 3 = some (.int .i64) := by kernel_rfl
theorem FRef03.u5 : Tryd.prog.underlying 5 = some (.int .u8) := by kernel_rfl
theorem FRef03.zv5 : (Tryd.prog.info? 5).bind (·.zero) = some (VU .u8 0#8) := by kernel_rfl
theorem FRef03.slu40 : Tryd.prog.underlying 40 = some (.slice 5) := by kernel_rfl
theorem FRef03.isl40 : ∃ el, Tryd.prog.underlying 40 = some (.slice el) := ⟨5, by kernel_rfl⟩
theorem FRef03.some3 : (Tryd.prog.underlying 3).isSome = true := by kernel_rfl
theorem FRef03.sl40 : slB Tryd.prog 40 1 = true := by kernel_rfl
theorem FRef03.el40 : elD Tryd.prog 40 = some (1, 1, some (VU .u8 0#8)) := by kernel_rfl
theorem FRef03.zv40 : (Tryd.prog.info? 40).bind (·.zero) = some (.slice none 0 0) := by kernel_rfl
theorem FRef03.slu102 : Tryd.prog.underlying 102 = some (.slice 40) := by kernel_rfl
theorem FRef03.sz40 : szT Tryd.prog 40 1 = true := by kernel_rfl
theorem FRef03.isl102 : ∃ el, Tryd.prog.underlying 102 = some (.slice el) := ⟨40, by kernel_rfl⟩
theorem FRef03.sl102 : slB Tryd.prog 102 1 = true := by kernel_rfl
theorem FRef03.sc40 : scalarT Tryd.prog 40 = true := by kernel_rfl
theorem FRef03.call53 : callB Tryd.prog 53 = true := by kernel_rfl
theorem FRef03.z22 : zeroIs Tryd.prog 22 [(32, fun _ => VU .u8 0#8)] := zeroIs_agg (by kernel_rfl)
theorem FRef03.arr22 : arrB Tryd.prog 22 32 1 = true := by kernel_rfl
theorem FRef03.agg22 : aggT Tryd.prog 22 32 = true := by kernel_rfl
theorem FRef03.sz22 : szT Tryd.prog 22 32 = true := by kernel_rfl
theorem FRef03.call76 : callB Tryd.prog 76 = true := by kernel_rfl
theorem FRef03.call77 : callB Tryd.prog 77 = true := by kernel_rfl
theorem FRef03.call73 : callB Tryd.prog 73 = true := by kernel_rfl
theorem FRef03.call60 : callB Tryd.prog 60 = true := by kernel_rfl
theorem FRef03.call61 : callB Tryd.prog 61 = true := by kernel_rfl
theorem letheref03_Joined_ok {B : Nat} {w0 w : World} {L : List Rg} {parts1 : List (List Byte)} {aparts1 : Option Addr} {nparts1 cparts1 iparts1 : Nat} (hparts1 : Bss L iparts1 aparts1 nparts1 cparts1 parts1) {r : (List Byte)} (hR : letheref03_Joined parts1 r) (HST : St B w0 (L) w) :
  Calls Tryd.prog 53 #[.slice aparts1 nparts1 cparts1] w fun e w' => ∃ ay0 : Option Addr, ∃ py0 : Option Nat, ∃ ny0 : Nat, ∃ cy0 : Nat, ∃ Fy0 : Nat → Byte, e = .returned (.slice ay0 ny0 cy0) ∧ St B w0 (⟨py0, 0, cy0, fun q => VU .u8 (Fy0 q), true⟩ :: L) w' ∧ Ow ay0 py0 ny0 cy0 Fy0 r := by
 refine W.enter 18 Tryd.func53 rfl rfl rfl ?_
 unfold letheref03_Joined at hR
 have eparts1 := hparts1.hl; subst eparts1
 refine W.seq_k fun _ k2 => W.regionT [(0, true)] (by kernel_rfl) ?_
 refine Plan.assign_slice rfl rfl <| Plan.nil (k2 _ _ ?_); clear k2
 refine W.seq_k fun _ k3 => W.regionT [(0, true)] (by kernel_rfl) ?_
 refine Plan.assign_slice rfl rfl <| Plan.nil (k3 _ _ ?_); clear k3
 refine W.seq_k fun _ k4 => W.seq_k fun _ k5 => ?_
 refine W.regionT [(0, true)] (by kernel_rfl) ?_
 refine Plan.assign_int rfl rfl <| Plan.nil (k5 _ _ ?_); clear k5
 have h32 := HST.nilR
 obtain ⟨out30, hI31, hR031⟩ := hR
 refine W.cutN (fun e w => ∃ y_out30 : List Byte, out30 = y_out30 ∧ ∃ aout30 : Option Addr, ∃ pout30 : Option Nat, ∃ cout30 : Nat, ∃ Fout30 : Nat → Byte, EnvHas e [(3, .slice aout30 y_out30.length cout30)] ∧ St B w0 (⟨pout30, 0, cout30, fun q => VU .u8 (Fout30 q), true⟩ :: L) w ∧ Ow aout30 pout30 y_out30.length cout30 Fout30 y_out30) ?_ ?_
 ·
  refine W.block ?_
  refine W.iter hI31 (fun (s31 : ((List Byte) × Nat)) e w => ∃ aout27 : Option Addr, ∃ pout27 : Option Nat, ∃ cout27 : Nat, ∃ Fout27 : Nat → Byte, EnvHas e [(0, .slice aparts1 parts1.length cparts1), (3, .slice aout27 s31.1.length cout27), (4, VN s31.2)] ∧ St B w0 (⟨pout27, 0, cout27, fun q => VU .u8 (Fout27 q), true⟩ :: L) w ∧ Ow aout27 pout27 s31.1.length cout27 Fout27 s31.1) ⟨none, none, 0, (fun _ => 0#8), (zer (zer (zer zen))), h32, Ow.nil⟩ ?_
  rintro ⟨out27, i_29⟩ o31 hR hx31 ev33 wl33 ⟨aout27, pout27, cout27, Fout27, he33, h33, hout27⟩
  obtain ⟨ev33, rfl⟩ := he33.open
  unfold letheref03_Joined_l0 at hR
  refine W.seq_k fun _ k34 => W.seq_k fun _ k35 => ?_
  refine W.regionT [(0, true), (1, true), (2, true), (3, true)] (by kernel_rfl) ?_
  refine Plan.move_int rfl rfl <| Plan.move_slice rfl rfl <| Plan.len FRef03.isl102 rfl rfl <| Plan.cmpP (a := (((i_29 : Nat) : Int) : Int)) (b := (((parts1.length : Nat) : Int) : Int)) (p := i_29 < parts1.length) rfl rfl rfl rfl icmp_ltN <| Plan.nil (k35 _ _ ?_); clear k35
  by_cases hc36 : i_29 < parts1.length
  ·
   replace hR := ifT hR hc36
   refine W.condT (congrArg Value.bool (decide_eq_true hc36)) ?_
   refine W.skip ?_
   refine k34 _ _ ?_; clear k34
   refine W.seq_k fun _ k37 => ?_
   refine W.block ?_
   refine W.regionT [(0, true), (1, true), (2, true), (3, true), (4, true), (5, false), (6, true)] (by kernel_rfl) ?_
   refine Plan.move_slice rfl rfl <| Plan.move_slice rfl rfl <| Plan.move_int rfl rfl ?_
   obtain ⟨hc38, hR⟩ := hR
   refine Plan.idxBss (j := i_29) hparts1 FRef03.sl102 rfl rfl rfl hc38 ?_
   refine Plan.loadBss (D := [_]) (j := i_29) h33 hparts1 rfl rfl hc38 FRef03.sc40 fun r39 i39 a39 c39 hr39 hv39 => ?_
   obtain ⟨hc41, hR⟩ := hR
   refine Plan.appendO (X := out27) (Y := (parts1.getD i_29 [])) h33 0 hout27 FRef03.el40 FRef03.sl40 rfl rfl rfl rfl (hv39.app [_]) hc41 (fun _ => EffO.wait rfl) fun a40 pb40 cap40 F40 w40 ho40 h40 => ?_
   simp only [zca, zna, zsz, zss] at h40
   refine Plan.assign_slice rfl rfl <| Plan.nil ?_
   refine blockR_norm ?_
   refine k37 _ _ ?_; clear k37
   refine W.regionT [(0, true), (1, true), (2, true)] (by kernel_rfl) ?_
   refine Plan.move_int rfl rfl ?_
   obtain ⟨hc42, hR⟩ := hR
   refine Plan.addN (a := i_29) (b := 1) rfl rfl rfl (by omega) <| Plan.assign_int rfl rfl <| Plan.nil ?_
   exact iterR_norm ⟨_, hR, a40, pb40, cap40, F40, (zer (zer (zer zen))), h40, ho40⟩
  ·
   replace hR := ifF hR hc36
   refine W.condF (congrArg Value.bool (decide_eq_false hc36)) ?_
   refine W.exit (thenR_exit (iterR_exit (blockR_here ?_)))
   exact ⟨out27, (hx31 _ hR).symm, aout27, pout27, cout27, Fout27, (zer zen), h33, hout27⟩
 ·
  rintro ev43 wl43 ⟨y_out30, hy43, aout30, pout30, cout30, Fout30, he43, h43, hout30⟩
  obtain ⟨ev43, rfl⟩ := he43.open
  subst hy43
  replace hR := hR031
  refine k4 _ _ ?_; clear k4
  refine W.seq_k fun _ k44 => W.regionT [(0, true), (1, true)] (by kernel_rfl) ?_
  refine Plan.move_slice rfl rfl <| Plan.assign_slice rfl rfl <| Plan.nil (k44 _ _ ?_); clear k44
  refine W.ret (finR_ret ?_)
  subst r
  refine RetOk.mk (.tmp_slice rfl .nil) ?_
  exact ⟨aout30, pout30, out30.length, cout30, Fout30, rfl, h43, hout30⟩
theorem letheref03_turned_ok {B : Nat} {w0 w : World} {L : List Rg} {iG4 : Nat} (hG4 : L[iG4]? = some ⟨some 4, 0, 8, fun q => VU .u64 (H64 q), false⟩) {iG5 : Nat} (hG5 : L[iG5]? = some ⟨some 5, 0, 64, fun q => VU .u64 (K64 q), false⟩) {key1 : List Byte} {akey1 : Option Addr} {nkey1 ckey1 ikey1 : Nat} (hkey1 : Bx L ikey1 akey1 nkey1 ckey1 key1) {x_2 : Int} {r : (List Byte)} (hR : letheref03_turned key1 x_2 r) (HST : St B w0 (L) w) :
  Calls Tryd.prog 77 #[.slice akey1 nkey1 ckey1, .int .i64 x_2] w fun e w' => ∃ ay0 : Option Addr, ∃ py0 : Option Nat, ∃ ny0 : Nat, ∃ cy0 : Nat, ∃ Fy0 : Nat → Byte, e = .returned (.slice ay0 ny0 cy0) ∧ St B w0 (⟨py0, 0, cy0, fun q => VU .u8 (Fy0 q), true⟩ :: L) w' ∧ Ow ay0 py0 ny0 cy0 Fy0 r := by
 refine W.enter 53 Tryd.func77 rfl rfl rfl ?_
 unfold letheref03_turned at hR
 have ekey1 := hkey1.hl; subst ekey1
 refine W.seq_k fun _ k3 => W.regionT [(0, true)] (by kernel_rfl) ?_
 refine Plan.assign_slice rfl rfl <| Plan.nil (k3 _ _ ?_); clear k3
 refine W.seq_k fun _ k4 => W.regionT [(0, false), (1, true)] (by kernel_rfl) ?_
 refine Plan.makeO (len := 64) (c := 64) HST FRef03.el40 rfl rfl rfl (by omega) (by omega) (fun _ => EffO.keep PIn.nil) fun b5 w5 hb5 ho5 h5 => ?_
 refine Plan.assign_slice rfl rfl <| Plan.nil (k4 _ _ ?_); clear k4
 refine W.seq_k fun _ k6 => W.seq_k fun _ k15 => ?_
 refine W.regionT [(0, true), (1, true), (2, true)] (by kernel_rfl) ?_
 refine Plan.move_slice rfl rfl <| Plan.len FRef03.isl40 rfl rfl <| Plan.cmpP (a := (((key1.length : Nat) : Int) : Int)) (b := (64 : Int)) (p := 64 < key1.length) rfl rfl rfl rfl icmp_gtN <| Plan.nil (k15 _ _ ?_); clear k15
 by_cases hc16 : 64 < key1.length
 ·
  replace hR := ifT hR hc16
  refine W.condT (congrArg Value.bool (decide_eq_true hc16)) ?_
  refine W.seq_k fun _ k17 => W.regionT [(0, true), (1, false), (2, false), (3, false)] (by kernel_rfl) ?_
  refine Plan.move_slice rfl rfl ?_
  obtain ⟨x_19, hr18, hR⟩ := hR
  refine Plan.call (vs := [.slice akey1 key1.length ckey1]) rfl FRef03.call76 rfl (letheref02_Sum_ok (iG4 := iG4 + 1) hG4 (iG5 := iG5 + 1) hG5 (hkey1.app [_]) hr18 h5) ?_
  rintro _ w20 ⟨rfl, h20⟩
  refine ⟨_, rfl, .inl ⟨PIn.keep PIn.nil h20, ?_⟩⟩
  refine Plan.alloc h20 rfl FRef03.z22 PIn.nil fun b21 w21 hb21 h21 => ?_
  simp only [rngs, Nat.zero_add, Nat.reduceAdd, zca, zna] at h21
  refine Plan.storeA (f' := fun q => VU .u8 (x_19 q)) h21 0 rfl rfl rfl rfl (fun _ _ => rfl) FRef03.sz22 rfl fun w22 h22 => ?_
  simp only [zca, zna, zsz, zss] at h22
  refine Plan.nil (k17 _ _ ?_); clear k17
  refine W.regionT [(0, true), (1, true)] (by kernel_rfl) ?_
  refine Plan.slArrO (lo := 0) (hi := 32) (m := 32) (c := 32) (o' := 0) FRef03.arr22 rfl rfl rfl rfl (by omega) (by omega) (by omega) (by omega) <| Plan.assign_slice rfl rfl <| Plan.nil (k6 _ _ ?_); clear k6
  refine W.seq_k fun _ k23 => W.seq_k fun _ k24 => ?_
  refine W.regionT [(0, true)] (by kernel_rfl) ?_
  refine Plan.assign_int rfl rfl <| Plan.nil (k24 _ _ ?_); clear k24
  obtain ⟨out185, hI186, hR0186⟩ := hR
  refine W.cutN (fun e w => ∃ y_out185 : List Byte, out185 = y_out185 ∧ ∃ aout185 : Option Addr, ∃ pout185 : Option Nat, ∃ cout185 : Nat, ∃ Fout185 : Nat → Byte, EnvHas e [(5, .slice aout185 ((List.replicate 64 0#8).length) cout185)] ∧ St B w0 (⟨pout185, 0, cout185, fun q => VU .u8 (Fout185 q), true⟩ :: L) w ∧ Ow aout185 pout185 ((List.replicate 64 0#8).length) cout185 Fout185 y_out185) ?_ ?_
  ·
   refine W.block ?_
   refine W.iter hI186 (fun (s186 : ((List Byte) × (List Byte) × Nat)) e w => ∃ akey182 : Option Addr, ∃ pkey182 : Option Nat, ∃ ckey182 : Nat, ∃ Fkey182 : Nat → Byte, ∃ aout183 : Option Addr, ∃ pout183 : Option Nat, ∃ cout183 : Nat, ∃ Fout183 : Nat → Byte, EnvHas e [(0, .slice akey182 32 ckey182), (1, .int .i64 x_2), (5, .slice aout183 ((List.replicate 64 0#8).length) cout183), (7, VN s186.2.2)] ∧ St B w0 (⟨pkey182, 0, ckey182, fun q => VU .u8 (Fkey182 q), true⟩ :: ⟨pout183, 0, cout183, fun q => VU .u8 (Fout183 q), true⟩ :: L) w ∧ Ow akey182 pkey182 32 ckey182 Fkey182 s186.1 ∧ Ow aout183 pout183 ((List.replicate 64 0#8).length) cout183 Fout183 s186.2.1) ⟨some ⟨b21, 0, none⟩, some b21, 32, x_19, some ⟨b5, 0, none⟩, some b5, 64, (fun _ => 0#8), (zer (zer (zer (zer zen)))), h22, Ow.arr, ho5⟩ ?_
   rintro ⟨key182, out183, i_184⟩ o186 hR hx186 ev187 wl187 ⟨akey182, pkey182, ckey182, Fkey182, aout183, pout183, cout183, Fout183, he187, h187, hkey182, hout183⟩
   obtain ⟨ev187, rfl⟩ := he187.open
   unfold letheref03_turned_l0 at hR
   refine W.seq_k fun _ k188 => W.seq_k fun _ k189 => ?_
   refine W.regionT [(0, true), (1, true)] (by kernel_rfl) ?_
   refine Plan.move_int rfl rfl <| Plan.cmpP (a := (((i_184 : Nat) : Int) : Int)) (b := (64 : Int)) (p := i_184 < 64) rfl rfl rfl rfl icmp_ltN <| Plan.nil (k189 _ _ ?_); clear k189
   by_cases hc190 : i_184 < 64
   ·
    replace hR := ifT hR hc190
    refine W.condT (congrArg Value.bool (decide_eq_true hc190)) ?_
    refine W.skip ?_
    refine k188 _ _ ?_; clear k188
    refine W.seq_k fun _ k191 => ?_
    refine W.block ?_
    refine W.seq_k fun _ k192 => W.regionT [(0, true)] (by kernel_rfl) ?_
    refine Plan.assign_int rfl rfl <| Plan.nil (k192 _ _ ?_); clear k192
    refine W.seq_k fun _ k193 => ?_
    obtain ⟨key198, out199, k200, hX201, hR0201⟩ := hR
    refine W.cutN (fun e w => ∃ y_key198 : List Byte, ∃ y_out199 : List Byte, ∃ y_k200 : Nat, (key198 = y_key198 ∧ out199 = y_out199 ∧ k200 = y_k200) ∧ ∃ akey198 : Option Addr, ∃ pkey198 : Option Nat, ∃ ckey198 : Nat, ∃ Fkey198 : Nat → Byte, ∃ aout199 : Option Addr, ∃ pout199 : Option Nat, ∃ cout199 : Nat, ∃ Fout199 : Nat → Byte, EnvHas e [(0, .slice akey198 32 ckey198), (1, .int .i64 x_2), (5, .slice aout199 ((List.replicate 64 0#8).length) cout199), (7, VN i_184), (8, VN y_k200)] ∧ St B w0 (⟨pkey198, 0, ckey198, fun q => VU .u8 (Fkey198 q), true⟩ :: ⟨pout199, 0, cout199, fun q => VU .u8 (Fout199 q), true⟩ :: L) w ∧ Ow akey198 pkey198 32 ckey198 Fkey198 y_key198 ∧ Ow aout199 pout199 ((List.replicate 64 0#8).length) cout199 Fout199 y_out199) ?_ ?_
    ·
     replace hR := hX201
     refine W.seq_k fun _ k202 => W.regionT [(0, true), (1, true), (2, true), (3, true)] (by kernel_rfl) ?_
     refine Plan.move_int rfl rfl <| Plan.move_slice rfl rfl <| Plan.len FRef03.isl40 rfl rfl <| Plan.cmpP (a := (((i_184 : Nat) : Int) : Int)) (b := (32 : Int)) (p := i_184 < 32) rfl rfl rfl rfl icmp_ltN <| Plan.nil (k202 _ _ ?_); clear k202
     by_cases hc203 : i_184 < 32
     ·
      replace hR := ifT hR hc203
      refine W.condT (congrArg Value.bool (decide_eq_true hc203)) ?_
      refine W.regionT [(0, true), (1, true), (2, true), (3, true), (4, true), (5, true)] (by kernel_rfl) ?_
      refine Plan.move_slice rfl rfl <| Plan.move_int rfl rfl ?_
      obtain ⟨hc204, hR⟩ := hR
      refine Plan.idxVS (j := i_184) h187 (hkey182.bx 0 rfl) FRef03.sl40 rfl rfl rfl hc204 ?_
      refine Plan.loadV (j := i_184) h187 (hkey182.bx 0 rfl) rfl rfl hc204 FRef03.sc5 fun r205 hr205 => ?_
      refine Plan.convN (a := (lit key182 i_184).toNat) FRef03.u3 FRef03.some5 rfl rfl (Nat.lt_of_lt_of_le (lit key182 i_184).isLt (by decide)) <| Plan.assign_int rfl rfl <| Plan.nil ?_
      exact ⟨key182, out183, (lit key182 i_184).toNat, hR, akey182, pkey182, ckey182, Fkey182, aout183, pout183, cout183, Fout183, (zer (zer (zer (zer (zer zen))))), h187, hkey182, hout183⟩
     ·
      replace hR := ifF hR hc203
      refine W.condF (congrArg Value.bool (decide_eq_false hc203)) ?_
      refine W.skip ?_
      exact ⟨key182, out183, 0, hR, akey182, pkey182, ckey182, Fkey182, aout183, pout183, cout183, Fout183, (zer (zer (zer (zer (zer zen))))), h187, hkey182, hout183⟩
    ·
     rintro ev206 wl206 ⟨y_key198, y_out199, y_k200, ⟨hy206_0, hy206_1, hy206_2⟩, akey198, pkey198, ckey198, Fkey198, aout199, pout199, cout199, Fout199, he206, h206, hkey198, hout199⟩
     subst hy206_0
     subst hy206_1
     subst hy206_2
     obtain ⟨ev206, rfl⟩ := he206.open
     replace hR := hR0201
     refine k193 _ _ ?_; clear k193
     refine W.seq_k fun _ k207 => W.regionT [(0, true)] (by kernel_rfl) ?_
     refine Plan.assign_int rfl rfl <| Plan.nil (k207 _ _ ?_); clear k207
     refine W.seq_k fun _ k208 => W.seq_k fun _ k209 => ?_
     refine W.regionT [(0, true)] (by kernel_rfl) ?_
     refine Plan.assign_int rfl rfl <| Plan.nil (k209 _ _ ?_); clear k209
     obtain ⟨key243, out244, n_245, hI246, hR0246⟩ := hR
     refine W.cutN (fun e w => ∃ y_key243 : List Byte, ∃ y_out244 : List Byte, ∃ y_n_245 : Nat, (key243, out244, n_245) = (y_key243, y_out244, y_n_245) ∧ ∃ akey243 : Option Addr, ∃ pkey243 : Option Nat, ∃ ckey243 : Nat, ∃ Fkey243 : Nat → Byte, ∃ aout244 : Option Addr, ∃ pout244 : Option Nat, ∃ cout244 : Nat, ∃ Fout244 : Nat → Byte, EnvHas e [(0, .slice akey243 32 ckey243), (1, .int .i64 x_2), (5, .slice aout244 ((List.replicate 64 0#8).length) cout244), (7, VN i_184), (9, VN y_n_245)] ∧ St B w0 (⟨pkey243, 0, ckey243, fun q => VU .u8 (Fkey243 q), true⟩ :: ⟨pout244, 0, cout244, fun q => VU .u8 (Fout244 q), true⟩ :: L) w ∧ Ow akey243 pkey243 32 ckey243 Fkey243 y_key243 ∧ Ow aout244 pout244 ((List.replicate 64 0#8).length) cout244 Fout244 y_out244) ?_ ?_
     ·
      refine W.block ?_
      refine W.iter hI246 (fun (s246 : ((List Byte) × (List Byte) × Nat × Nat)) e w => ∃ akey239 : Option Addr, ∃ pkey239 : Option Nat, ∃ ckey239 : Nat, ∃ Fkey239 : Nat → Byte, ∃ aout240 : Option Addr, ∃ pout240 : Option Nat, ∃ cout240 : Nat, ∃ Fout240 : Nat → Byte, EnvHas e [(0, .slice akey239 32 ckey239), (1, .int .i64 x_2), (5, .slice aout240 ((List.replicate 64 0#8).length) cout240), (7, VN i_184), (8, VN k200), (9, VN s246.2.2.1), (10, VN s246.2.2.2)] ∧ St B w0 (⟨pkey239, 0, ckey239, fun q => VU .u8 (Fkey239 q), true⟩ :: ⟨pout240, 0, cout240, fun q => VU .u8 (Fout240 q), true⟩ :: L) w ∧ Ow akey239 pkey239 32 ckey239 Fkey239 s246.1 ∧ Ow aout240 pout240 ((List.replicate 64 0#8).length) cout240 Fout240 s246.2.1) ⟨akey198, pkey198, ckey198, Fkey198, aout199, pout199, cout199, Fout199, (zer (zer (zer (zer (zer (zer (zer zen))))))), h206, hkey198, hout199⟩ ?_
      rintro ⟨key239, out240, n_241, bit242⟩ o246 hR hx246 ev247 wl247 ⟨akey239, pkey239, ckey239, Fkey239, aout240, pout240, cout240, Fout240, he247, h247, hkey239, hout240⟩
      obtain ⟨ev247, rfl⟩ := he247.open
      unfold letheref03_turned_l1 at hR
      refine W.seq_k fun _ k248 => W.seq_k fun _ k249 => ?_
      refine W.regionT [(0, true), (1, true)] (by kernel_rfl) ?_
      refine Plan.move_int rfl rfl <| Plan.cmpP (a := (((bit242 : Nat) : Int) : Int)) (b := (256 : Int)) (p := bit242 < 256) rfl rfl rfl rfl icmp_ltN <| Plan.nil (k249 _ _ ?_); clear k249
      by_cases hc250 : bit242 < 256
      ·
       replace hR := ifT hR hc250
       refine W.condT (congrArg Value.bool (decide_eq_true hc250)) ?_
       refine W.skip ?_
       refine k248 _ _ ?_; clear k248
       refine W.seq_k fun _ k251 => ?_
       refine W.block ?_
       refine W.seq_k fun _ k252 => ?_
       refine W.regionD FRef03.mixed [(0, true), (1, true), (2, true), (3, true), (4, true), (5, true), (6, true), (7, true), (8, true)] (by kernel_rfl) ?_
       have h253 := h247.drew
       refine Plan.move_int rfl rfl <| Plan.move_int rfl rfl ?_
       obtain ⟨hc254, hR⟩ := hR
       obtain ⟨hc255, hR⟩ := hR
       refine Plan.quoN (a := k200) (b := bit242) rfl rfl rfl (by omega) <| Plan.remN (a := (k200 / bit242)) (b := 2) rfl rfl rfl (by omega) <| Plan.move_int rfl rfl <| Plan.move_int rfl rfl ?_
       obtain ⟨hc256, hR⟩ := hR
       obtain ⟨hc257, hR⟩ := hR
       refine Plan.quoIw (a := x_2) (b := ((bit242 : Nat) : Int)) rfl rfl rfl hc256 hc257 ?_
       have hb258 := tmod_bd (x_2.tdiv ((bit242 : Nat) : Int)) (c := 2) (by decide)
       refine Plan.remI (a := (x_2.tdiv ((bit242 : Nat) : Int))) (b := 2) rfl rfl rfl (by omega) <| Plan.cmpP (a := (((((k200 / bit242) % 2) : Nat) : Int) : Int)) (b := (((x_2.tdiv ((bit242 : Nat) : Int)).tmod 2) : Int)) (p := ((((k200 / bit242) % 2) : Nat) : Int) ≠ ((x_2.tdiv ((bit242 : Nat) : Int)).tmod 2)) rfl rfl rfl rfl icmp_ne <| Plan.nil (k252 _ _ ?_); clear k252
       by_cases hc259 : ((((k200 / bit242) % 2) : Nat) : Int) ≠ ((x_2.tdiv ((bit242 : Nat) : Int)).tmod 2)
       ·
        replace hR := ifT hR hc259
        refine W.condT (congrArg Value.bool (decide_eq_true hc259)) ?_
        refine W.regionT [(0, true), (1, true), (2, true), (3, true)] (by kernel_rfl) ?_
        refine Plan.move_int rfl rfl <| Plan.move_int rfl rfl ?_
        obtain ⟨hc260, hR⟩ := hR
        refine Plan.addN (a := n_241) (b := bit242) rfl rfl rfl (by omega) <| Plan.assign_int rfl rfl <| Plan.nil ?_
        refine blockR_norm ?_
        refine k251 _ _ ?_; clear k251
        refine W.regionT [(0, true), (1, true), (2, true)] (by kernel_rfl) ?_
        refine Plan.move_int rfl rfl <| Plan.mulN (a := bit242) (b := 2) rfl rfl rfl (by omega) <| Plan.assign_int rfl rfl <| Plan.nil ?_
        exact iterR_norm ⟨_, hR, akey239, pkey239, ckey239, Fkey239, aout240, pout240, cout240, Fout240, (zer (zer (zer (zer (zer (zer (zer zen))))))), h253, hkey239, hout240⟩
       ·
        replace hR := ifF hR hc259
        refine W.condF (congrArg Value.bool (decide_eq_false hc259)) ?_
        refine W.skip ?_
        refine blockR_norm ?_
        refine k251 _ _ ?_; clear k251
        refine W.regionT [(0, true), (1, true), (2, true)] (by kernel_rfl) ?_
        refine Plan.move_int rfl rfl <| Plan.mulN (a := bit242) (b := 2) rfl rfl rfl (by omega) <| Plan.assign_int rfl rfl <| Plan.nil ?_
        exact iterR_norm ⟨_, hR, akey239, pkey239, ckey239, Fkey239, aout240, pout240, cout240, Fout240, (zer (zer (zer (zer (zer (zer (zer zen))))))), h253, hkey239, hout240⟩
      ·
       replace hR := ifF hR hc250
       refine W.condF (congrArg Value.bool (decide_eq_false hc250)) ?_
       refine W.exit (thenR_exit (iterR_exit (blockR_here ?_)))
       exact ⟨key239, out240, n_241, (hx246 _ hR).symm, akey239, pkey239, ckey239, Fkey239, aout240, pout240, cout240, Fout240, (zer (zer (zer (zer (zer zen))))), h247, hkey239, hout240⟩
     ·
      rintro ev261 wl261 ⟨y_key243, y_out244, y_n_245, hy261, akey243, pkey243, ckey243, Fkey243, aout244, pout244, cout244, Fout244, he261, h261, hkey243, hout244⟩
      obtain ⟨ev261, rfl⟩ := he261.open
      cases hy261
      replace hR := hR0246
      refine k208 _ _ ?_; clear k208
      refine W.regionT [(0, true), (1, true), (2, true), (3, true), (4, true), (5, false)] (by kernel_rfl) ?_
      refine Plan.move_slice rfl rfl <| Plan.move_int rfl rfl <| Plan.move_int rfl rfl <| Plan.convNU .u8 (a := n_245) FRef03.u5 FRef03.some3 rfl rfl ?_
      obtain ⟨hc262, hR⟩ := hR
      refine Plan.idxVS (j := i_184) h261 (hout244.bx 1 rfl) FRef03.sl40 rfl rfl rfl hc262 ?_
      refine Plan.storeO (j := i_184) (Y := (BitVec.ofNat 8 n_245)) h261 1 hout244 rfl rfl rfl rfl hc262 FRef03.sz5 rfl fun w263 F263 ho263 h263 => ?_
      simp only [zca, zna, zsz, zss] at h263
      have e263 : (out244.set i_184 (BitVec.ofNat 8 n_245)).length = out244.length := List.length_set
      refine Plan.nil ?_
      refine blockR_norm ?_
      refine k191 _ _ ?_; clear k191
      refine W.regionT [(0, true), (1, true), (2, true)] (by kernel_rfl) ?_
      refine Plan.move_int rfl rfl <| Plan.addN (a := i_184) (b := 1) rfl rfl rfl (by omega) <| Plan.assign_int rfl rfl <| Plan.nil ?_
      exact iterR_norm ⟨_, hR, akey243, pkey243, ckey243, Fkey243, aout244, pout244, cout244, F263, (zer (zer (zer (zer zen)))), h263, hkey243, (show Ow _ _ ((List.replicate 64 0#8).length) _ _ _ from ho263)⟩
   ·
    replace hR := ifF hR hc190
    refine W.condF (congrArg Value.bool (decide_eq_false hc190)) ?_
    refine W.exit (thenR_exit (iterR_exit (blockR_here ?_)))
    have h264 := St.pickT (C := [_, _]) h187 [1] (by decide)
    simp only [pick, zfc, zfn, zgz, zgs, zca, zna] at h264
    exact ⟨out183, (hx186 _ hR).symm, aout183, pout183, cout183, Fout183, (zer zen), h264, hout183⟩
  ·
   rintro ev265 wl265 ⟨y_out185, hy265, aout185, pout185, cout185, Fout185, he265, h265, hout185⟩
   obtain ⟨ev265, rfl⟩ := he265.open
   subst hy265
   replace hR := hR0186
   refine k23 _ _ ?_; clear k23
   refine W.seq_k fun _ k266 => W.regionT [(0, true), (1, true)] (by kernel_rfl) ?_
   refine Plan.move_slice rfl rfl <| Plan.assign_slice rfl rfl <| Plan.nil (k266 _ _ ?_); clear k266
   refine W.ret (finR_ret ?_)
   subst r
   refine RetOk.mk (.tmp_slice rfl .nil) ?_
   exact ⟨aout185, pout185, (List.replicate 64 0#8).length, cout185, Fout185, rfl, h265, hout185⟩
 ·
  replace hR := ifF hR hc16
  refine W.condF (congrArg Value.bool (decide_eq_false hc16)) ?_
  refine W.skip ?_
  refine k6 _ _ ?_; clear k6
  refine W.seq_k fun _ k267 => W.seq_k fun _ k268 => ?_
  refine W.regionT [(0, true)] (by kernel_rfl) ?_
  refine Plan.assign_int rfl rfl <| Plan.nil (k268 _ _ ?_); clear k268
  obtain ⟨out416, hI417, hR0417⟩ := hR
  refine W.cutN (fun e w => ∃ y_out416 : List Byte, out416 = y_out416 ∧ ∃ aout416 : Option Addr, ∃ pout416 : Option Nat, ∃ cout416 : Nat, ∃ Fout416 : Nat → Byte, EnvHas e [(5, .slice aout416 ((List.replicate 64 0#8).length) cout416)] ∧ St B w0 (⟨pout416, 0, cout416, fun q => VU .u8 (Fout416 q), true⟩ :: L) w ∧ Ow aout416 pout416 ((List.replicate 64 0#8).length) cout416 Fout416 y_out416) ?_ ?_
  ·
   refine W.block ?_
   refine W.iter hI417 (fun (s417 : ((List Byte) × Nat)) e w => ∃ aout414 : Option Addr, ∃ pout414 : Option Nat, ∃ cout414 : Nat, ∃ Fout414 : Nat → Byte, EnvHas e [(0, .slice akey1 key1.length ckey1), (1, .int .i64 x_2), (5, .slice aout414 ((List.replicate 64 0#8).length) cout414), (7, VN s417.2)] ∧ St B w0 (⟨pout414, 0, cout414, fun q => VU .u8 (Fout414 q), true⟩ :: L) w ∧ Ow aout414 pout414 ((List.replicate 64 0#8).length) cout414 Fout414 s417.1) ⟨some ⟨b5, 0, none⟩, some b5, 64, (fun _ => 0#8), (zer (zer (zer (zer zen)))), h5, ho5⟩ ?_
   rintro ⟨out414, i_415⟩ o417 hR hx417 ev418 wl418 ⟨aout414, pout414, cout414, Fout414, he418, h418, hout414⟩
   obtain ⟨ev418, rfl⟩ := he418.open
   unfold letheref03_turned_l2 at hR
   refine W.seq_k fun _ k419 => W.seq_k fun _ k420 => ?_
   refine W.regionT [(0, true), (1, true)] (by kernel_rfl) ?_
   refine Plan.move_int rfl rfl <| Plan.cmpP (a := (((i_415 : Nat) : Int) : Int)) (b := (64 : Int)) (p := i_415 < 64) rfl rfl rfl rfl icmp_ltN <| Plan.nil (k420 _ _ ?_); clear k420
   by_cases hc421 : i_415 < 64
   ·
    replace hR := ifT hR hc421
    refine W.condT (congrArg Value.bool (decide_eq_true hc421)) ?_
    refine W.skip ?_
    refine k419 _ _ ?_; clear k419
    refine W.seq_k fun _ k422 => ?_
    refine W.block ?_
    refine W.seq_k fun _ k423 => W.regionT [(0, true)] (by kernel_rfl) ?_
    refine Plan.assign_int rfl rfl <| Plan.nil (k423 _ _ ?_); clear k423
    refine W.seq_k fun _ k424 => ?_
    obtain ⟨out429, k430, hX431, hR0431⟩ := hR
    refine W.cutN (fun e w => ∃ y_out429 : List Byte, ∃ y_k430 : Nat, (out429 = y_out429 ∧ k430 = y_k430) ∧ ∃ aout429 : Option Addr, ∃ pout429 : Option Nat, ∃ cout429 : Nat, ∃ Fout429 : Nat → Byte, EnvHas e [(0, .slice akey1 key1.length ckey1), (1, .int .i64 x_2), (5, .slice aout429 ((List.replicate 64 0#8).length) cout429), (7, VN i_415), (8, VN y_k430)] ∧ St B w0 (⟨pout429, 0, cout429, fun q => VU .u8 (Fout429 q), true⟩ :: L) w ∧ Ow aout429 pout429 ((List.replicate 64 0#8).length) cout429 Fout429 y_out429) ?_ ?_
    ·
     replace hR := hX431
     refine W.seq_k fun _ k432 => W.regionT [(0, true), (1, true), (2, true), (3, true)] (by kernel_rfl) ?_
     refine Plan.move_int rfl rfl <| Plan.move_slice rfl rfl <| Plan.len FRef03.isl40 rfl rfl <| Plan.cmpP (a := (((i_415 : Nat) : Int) : Int)) (b := (((key1.length : Nat) : Int) : Int)) (p := i_415 < key1.length) rfl rfl rfl rfl icmp_ltN <| Plan.nil (k432 _ _ ?_); clear k432
     by_cases hc433 : i_415 < key1.length
     ·
      replace hR := ifT hR hc433
      refine W.condT (congrArg Value.bool (decide_eq_true hc433)) ?_
      refine W.regionT [(0, true), (1, true), (2, true), (3, true), (4, true), (5, true)] (by kernel_rfl) ?_
      refine Plan.move_slice rfl rfl <| Plan.move_int rfl rfl ?_
      obtain ⟨hc434, hR⟩ := hR
      refine Plan.idxVS (j := i_415) h418 (hkey1.app [_]) FRef03.sl40 rfl rfl rfl hc434 ?_
      refine Plan.loadV (j := i_415) h418 (hkey1.app [_]) rfl rfl hc434 FRef03.sc5 fun r435 hr435 => ?_
      refine Plan.convN (a := (lit key1 i_415).toNat) FRef03.u3 FRef03.some5 rfl rfl (Nat.lt_of_lt_of_le (lit key1 i_415).isLt (by decide)) <| Plan.assign_int rfl rfl <| Plan.nil ?_
      exact ⟨out414, (lit key1 i_415).toNat, hR, aout414, pout414, cout414, Fout414, (zer (zer (zer (zer (zer zen))))), h418, hout414⟩
     ·
      replace hR := ifF hR hc433
      refine W.condF (congrArg Value.bool (decide_eq_false hc433)) ?_
      refine W.skip ?_
      exact ⟨out414, 0, hR, aout414, pout414, cout414, Fout414, (zer (zer (zer (zer (zer zen))))), h418, hout414⟩
    ·
     rintro ev436 wl436 ⟨y_out429, y_k430, ⟨hy436_0, hy436_1⟩, aout429, pout429, cout429, Fout429, he436, h436, hout429⟩
     subst hy436_0
     subst hy436_1
     obtain ⟨ev436, rfl⟩ := he436.open
     replace hR := hR0431
     refine k424 _ _ ?_; clear k424
     refine W.seq_k fun _ k437 => W.regionT [(0, true)] (by kernel_rfl) ?_
     refine Plan.assign_int rfl rfl <| Plan.nil (k437 _ _ ?_); clear k437
     refine W.seq_k fun _ k438 => W.seq_k fun _ k439 => ?_
     refine W.regionT [(0, true)] (by kernel_rfl) ?_
     refine Plan.assign_int rfl rfl <| Plan.nil (k439 _ _ ?_); clear k439
     obtain ⟨out470, n_471, hI472, hR0472⟩ := hR
     refine W.cutN (fun e w => ∃ y_out470 : List Byte, ∃ y_n_471 : Nat, (out470, n_471) = (y_out470, y_n_471) ∧ ∃ aout470 : Option Addr, ∃ pout470 : Option Nat, ∃ cout470 : Nat, ∃ Fout470 : Nat → Byte, EnvHas e [(0, .slice akey1 key1.length ckey1), (1, .int .i64 x_2), (5, .slice aout470 ((List.replicate 64 0#8).length) cout470), (7, VN i_415), (9, VN y_n_471)] ∧ St B w0 (⟨pout470, 0, cout470, fun q => VU .u8 (Fout470 q), true⟩ :: L) w ∧ Ow aout470 pout470 ((List.replicate 64 0#8).length) cout470 Fout470 y_out470) ?_ ?_
     ·
      refine W.block ?_
      refine W.iter hI472 (fun (s472 : ((List Byte) × Nat × Nat)) e w => ∃ aout467 : Option Addr, ∃ pout467 : Option Nat, ∃ cout467 : Nat, ∃ Fout467 : Nat → Byte, EnvHas e [(0, .slice akey1 key1.length ckey1), (1, .int .i64 x_2), (5, .slice aout467 ((List.replicate 64 0#8).length) cout467), (7, VN i_415), (8, VN k430), (9, VN s472.2.1), (10, VN s472.2.2)] ∧ St B w0 (⟨pout467, 0, cout467, fun q => VU .u8 (Fout467 q), true⟩ :: L) w ∧ Ow aout467 pout467 ((List.replicate 64 0#8).length) cout467 Fout467 s472.1) ⟨aout429, pout429, cout429, Fout429, (zer (zer (zer (zer (zer (zer (zer zen))))))), h436, hout429⟩ ?_
      rintro ⟨out467, n_468, bit469⟩ o472 hR hx472 ev473 wl473 ⟨aout467, pout467, cout467, Fout467, he473, h473, hout467⟩
      obtain ⟨ev473, rfl⟩ := he473.open
      unfold letheref03_turned_l3 at hR
      refine W.seq_k fun _ k474 => W.seq_k fun _ k475 => ?_
      refine W.regionT [(0, true), (1, true)] (by kernel_rfl) ?_
      refine Plan.move_int rfl rfl <| Plan.cmpP (a := (((bit469 : Nat) : Int) : Int)) (b := (256 : Int)) (p := bit469 < 256) rfl rfl rfl rfl icmp_ltN <| Plan.nil (k475 _ _ ?_); clear k475
      by_cases hc476 : bit469 < 256
      ·
       replace hR := ifT hR hc476
       refine W.condT (congrArg Value.bool (decide_eq_true hc476)) ?_
       refine W.skip ?_
       refine k474 _ _ ?_; clear k474
       refine W.seq_k fun _ k477 => ?_
       refine W.block ?_
       refine W.seq_k fun _ k478 => ?_
       refine W.regionD FRef03.mixed [(0, true), (1, true), (2, true), (3, true), (4, true), (5, true), (6, true), (7, true), (8, true)] (by kernel_rfl) ?_
       have h479 := h473.drew
       refine Plan.move_int rfl rfl <| Plan.move_int rfl rfl ?_
       obtain ⟨hc480, hR⟩ := hR
       obtain ⟨hc481, hR⟩ := hR
       refine Plan.quoN (a := k430) (b := bit469) rfl rfl rfl (by omega) <| Plan.remN (a := (k430 / bit469)) (b := 2) rfl rfl rfl (by omega) <| Plan.move_int rfl rfl <| Plan.move_int rfl rfl ?_
       obtain ⟨hc482, hR⟩ := hR
       obtain ⟨hc483, hR⟩ := hR
       refine Plan.quoIw (a := x_2) (b := ((bit469 : Nat) : Int)) rfl rfl rfl hc482 hc483 ?_
       have hb484 := tmod_bd (x_2.tdiv ((bit469 : Nat) : Int)) (c := 2) (by decide)
       refine Plan.remI (a := (x_2.tdiv ((bit469 : Nat) : Int))) (b := 2) rfl rfl rfl (by omega) <| Plan.cmpP (a := (((((k430 / bit469) % 2) : Nat) : Int) : Int)) (b := (((x_2.tdiv ((bit469 : Nat) : Int)).tmod 2) : Int)) (p := ((((k430 / bit469) % 2) : Nat) : Int) ≠ ((x_2.tdiv ((bit469 : Nat) : Int)).tmod 2)) rfl rfl rfl rfl icmp_ne <| Plan.nil (k478 _ _ ?_); clear k478
       by_cases hc485 : ((((k430 / bit469) % 2) : Nat) : Int) ≠ ((x_2.tdiv ((bit469 : Nat) : Int)).tmod 2)
       ·
        replace hR := ifT hR hc485
        refine W.condT (congrArg Value.bool (decide_eq_true hc485)) ?_
        refine W.regionT [(0, true), (1, true), (2, true), (3, true)] (by kernel_rfl) ?_
        refine Plan.move_int rfl rfl <| Plan.move_int rfl rfl ?_
        obtain ⟨hc486, hR⟩ := hR
        refine Plan.addN (a := n_468) (b := bit469) rfl rfl rfl (by omega) <| Plan.assign_int rfl rfl <| Plan.nil ?_
        refine blockR_norm ?_
        refine k477 _ _ ?_; clear k477
        refine W.regionT [(0, true), (1, true), (2, true)] (by kernel_rfl) ?_
        refine Plan.move_int rfl rfl <| Plan.mulN (a := bit469) (b := 2) rfl rfl rfl (by omega) <| Plan.assign_int rfl rfl <| Plan.nil ?_
        exact iterR_norm ⟨_, hR, aout467, pout467, cout467, Fout467, (zer (zer (zer (zer (zer (zer (zer zen))))))), h479, hout467⟩
       ·
        replace hR := ifF hR hc485
        refine W.condF (congrArg Value.bool (decide_eq_false hc485)) ?_
        refine W.skip ?_
        refine blockR_norm ?_
        refine k477 _ _ ?_; clear k477
        refine W.regionT [(0, true), (1, true), (2, true)] (by kernel_rfl) ?_
        refine Plan.move_int rfl rfl <| Plan.mulN (a := bit469) (b := 2) rfl rfl rfl (by omega) <| Plan.assign_int rfl rfl <| Plan.nil ?_
        exact iterR_norm ⟨_, hR, aout467, pout467, cout467, Fout467, (zer (zer (zer (zer (zer (zer (zer zen))))))), h479, hout467⟩
      ·
       replace hR := ifF hR hc476
       refine W.condF (congrArg Value.bool (decide_eq_false hc476)) ?_
       refine W.exit (thenR_exit (iterR_exit (blockR_here ?_)))
       exact ⟨out467, n_468, (hx472 _ hR).symm, aout467, pout467, cout467, Fout467, (zer (zer (zer (zer (zer zen))))), h473, hout467⟩
     ·
      rintro ev487 wl487 ⟨y_out470, y_n_471, hy487, aout470, pout470, cout470, Fout470, he487, h487, hout470⟩
      obtain ⟨ev487, rfl⟩ := he487.open
      cases hy487
      replace hR := hR0472
      refine k438 _ _ ?_; clear k438
      refine W.regionT [(0, true), (1, true), (2, true), (3, true), (4, true), (5, false)] (by kernel_rfl) ?_
      refine Plan.move_slice rfl rfl <| Plan.move_int rfl rfl <| Plan.move_int rfl rfl <| Plan.convNU .u8 (a := n_471) FRef03.u5 FRef03.some3 rfl rfl ?_
      obtain ⟨hc488, hR⟩ := hR
      refine Plan.idxVS (j := i_415) h487 (hout470.bx 0 rfl) FRef03.sl40 rfl rfl rfl hc488 ?_
      refine Plan.storeO (j := i_415) (Y := (BitVec.ofNat 8 n_471)) h487 0 hout470 rfl rfl rfl rfl hc488 FRef03.sz5 rfl fun w489 F489 ho489 h489 => ?_
      simp only [zca, zna, zsz, zss] at h489
      have e489 : (out470.set i_415 (BitVec.ofNat 8 n_471)).length = out470.length := List.length_set
      refine Plan.nil ?_
      refine blockR_norm ?_
      refine k422 _ _ ?_; clear k422
      refine W.regionT [(0, true), (1, true), (2, true)] (by kernel_rfl) ?_
      refine Plan.move_int rfl rfl <| Plan.addN (a := i_415) (b := 1) rfl rfl rfl (by omega) <| Plan.assign_int rfl rfl <| Plan.nil ?_
      exact iterR_norm ⟨_, hR, aout470, pout470, cout470, F489, (zer (zer (zer (zer zen)))), h489, (show Ow _ _ ((List.replicate 64 0#8).length) _ _ _ from ho489)⟩
   ·
    replace hR := ifF hR hc421
    refine W.condF (congrArg Value.bool (decide_eq_false hc421)) ?_
    refine W.exit (thenR_exit (iterR_exit (blockR_here ?_)))
    exact ⟨out414, (hx417 _ hR).symm, aout414, pout414, cout414, Fout414, (zer zen), h418, hout414⟩
  ·
   rintro ev490 wl490 ⟨y_out416, hy490, aout416, pout416, cout416, Fout416, he490, h490, hout416⟩
   obtain ⟨ev490, rfl⟩ := he490.open
   subst hy490
   replace hR := hR0417
   refine k267 _ _ ?_; clear k267
   refine W.seq_k fun _ k491 => W.regionT [(0, true), (1, true)] (by kernel_rfl) ?_
   refine Plan.move_slice rfl rfl <| Plan.assign_slice rfl rfl <| Plan.nil (k491 _ _ ?_); clear k491
   refine W.ret (finR_ret ?_)
   subst r
   refine RetOk.mk (.tmp_slice rfl .nil) ?_
   exact ⟨aout416, pout416, (List.replicate 64 0#8).length, cout416, Fout416, rfl, h490, hout416⟩
theorem letheref03_Mac_ok {B : Nat} {w0 w : World} {L : List Rg} {iG4 : Nat} (hG4 : L[iG4]? = some ⟨some 4, 0, 8, fun q => VU .u64 (H64 q), false⟩) {iG5 : Nat} (hG5 : L[iG5]? = some ⟨some 5, 0, 64, fun q => VU .u64 (K64 q), false⟩) {key1 : List Byte} {akey1 : Option Addr} {nkey1 ckey1 ikey1 : Nat} (hkey1 : Bx L ikey1 akey1 nkey1 ckey1 key1) {text2 : List Byte} {atext2 : Option Addr} {ntext2 ctext2 itext2 : Nat} (htext2 : Bx L itext2 atext2 ntext2 ctext2 text2) {r : (Nat → BitVec 8)} (hR : letheref03_Mac key1 text2 r) (HST : St B w0 (L) w) :
  Calls Tryd.prog 73 #[.slice akey1 nkey1 ckey1, .slice atext2 ntext2 ctext2] w fun e w' => e = .returned (AG [(32, fun q => VU .u8 (r q))]) ∧ St B w0 (L) w' := by
 refine W.enter 18 Tryd.func73 rfl rfl rfl ?_
 unfold letheref03_Mac at hR
 have ekey1 := hkey1.hl; subst ekey1
 have etext2 := htext2.hl; subst etext2
 refine W.seq_k fun _ k3 => W.regionT [(0, false)] (by kernel_rfl) ?_
 refine Plan.alloc HST rfl FRef03.z22 PIn.nil fun b4 w4 hb4 h4 => ?_
 simp only [rngs, Nat.zero_add, Nat.reduceAdd, zca, zna] at h4
 refine Plan.nil (k3 _ _ ?_); clear k3
 refine W.seq_k fun _ k5 => W.regionT [(0, true), (1, false), (2, true), (3, false), (4, false), (5, false), (6, false), (7, false)] (by kernel_rfl) ?_
 refine Plan.move_slice rfl rfl ?_
 obtain ⟨x_7, hr6, hR⟩ := hR
 refine Plan.call (vs := [.slice akey1 key1.length ckey1, VN 54]) rfl FRef03.call77 rfl (letheref03_turned_ok (iG4 := iG4 + 1) hG4 (iG5 := iG5 + 1) hG5 (hkey1.app [_]) hr6 h4) ?_
 rintro _ w13 ⟨ay0_8, py0_9, ny0_10, cy0_11, Fy0_12, rfl, h13, hf13_0⟩
 obtain rfl := hf13_0.hl
 refine ⟨_, rfl, .inl ⟨PIn.keep PIn.nil h13, ?_⟩⟩
 refine Plan.move_slice rfl rfl ?_
 refine Plan.buildSlice h13 (ps := [(2, fun i => .slice ((fun i => ([ay0_8, atext2] : List (Option Addr)).getD i none) i) ((fun i => ([x_7.length, text2.length] : List Nat).getD i 0) i) ((fun i => ([cy0_11, ctext2] : List Nat).getD i 0) i))]) FRef03.slu102 FRef03.sz40 FRef03.zv40 (by decide) (by decide) rfl rfl rfl (EffO.keep PIn.nil) fun b15 w15 hb15 h15 => ?_
 simp only [rngs, List.cons_append, List.nil_append] at h15
 obtain ⟨x_17, hr16, hR⟩ := hR
 refine Plan.call (vs := [.slice (some ⟨b15, 0, none⟩) 2 2]) rfl FRef03.call53 rfl (letheref03_Joined_ok (by exact (Bss.of 0 rfl rfl (fun i hi => match i, hi with | 0, _ => ⟨_, (hf13_0.bx 1 rfl)⟩ | 1, _ => ⟨_, (htext2.app [_, _, _])⟩ | k + 2, hk => absurd hk (by omega)))) hr16 h15) ?_
 rintro _ w23 ⟨ay0_18, py0_19, ny0_20, cy0_21, Fy0_22, rfl, h23, hf23_0⟩
 obtain rfl := hf23_0.hl
 refine ⟨_, rfl, .inl ⟨PIn.keep PIn.nil h23, ?_⟩⟩
 obtain ⟨x_25, hr24, hR⟩ := hR
 refine Plan.call (vs := [.slice ay0_18 x_17.length cy0_21]) rfl FRef03.call76 rfl (letheref02_Sum_ok (iG4 := iG4 + 4) hG4 (iG5 := iG5 + 4) hG5 (by exact (hf23_0.bx 0 rfl)) hr24 h23) ?_
 rintro _ w26 ⟨rfl, h26⟩
 refine ⟨_, rfl, .inl ⟨PIn.keep PIn.nil h26, ?_⟩⟩
 refine Plan.alloc h26 rfl FRef03.z22 PIn.nil fun b27 w27 hb27 h27 => ?_
 simp only [rngs, Nat.zero_add, Nat.reduceAdd, zca, zna] at h27
 refine Plan.storeA (f' := fun q => VU .u8 (x_25 q)) h27 0 rfl rfl rfl rfl (fun _ _ => rfl) FRef03.sz22 rfl fun w28 h28 => ?_
 simp only [zca, zna, zsz, zss] at h28
 refine Plan.nil (k5 _ _ ?_); clear k5
 refine W.seq_k fun _ k29 => ?_
 refine W.regionD FRef03.mixed [(0, true), (2, true), (1, false), (3, false), (4, false), (5, false), (6, false)] (by kernel_rfl) ?_
 have h30 := h28.drew
 refine Plan.move_slice rfl rfl <| Plan.slArrO (lo := 0) (hi := 32) (m := 32) (c := 32) (o' := 0) FRef03.arr22 rfl rfl rfl rfl (by omega) (by omega) (by omega) (by omega) ?_
 obtain ⟨x_32, hr31, hR⟩ := hR
 refine Plan.call (vs := [.slice akey1 key1.length ckey1, VN 92]) rfl FRef03.call77 rfl (letheref03_turned_ok (iG4 := iG4 + 5) hG4 (iG5 := iG5 + 5) hG5 (hkey1.app [_, _, _, _, _]) hr31 h30) ?_
 rintro _ w38 ⟨ay0_33, py0_34, ny0_35, cy0_36, Fy0_37, rfl, h38, hf38_0⟩
 obtain rfl := hf38_0.hl
 refine ⟨_, rfl, .inl ⟨PIn.keep PIn.nil h38, ?_⟩⟩
 refine Plan.buildSlice h38 (ps := [(2, fun i => .slice ((fun i => ([ay0_33, some ⟨b27, 0, none⟩] : List (Option Addr)).getD i none) i) ((fun i => ([x_32.length, 32] : List Nat).getD i 0) i) ((fun i => ([cy0_36, 32] : List Nat).getD i 0) i))]) FRef03.slu102 FRef03.sz40 FRef03.zv40 (by decide) (by decide) rfl rfl rfl (EffO.keep PIn.nil) fun b40 w40 hb40 h40 => ?_
 simp only [rngs, List.cons_append, List.nil_append] at h40
 obtain ⟨x_42, hr41, hR⟩ := hR
 refine Plan.call (vs := [.slice (some ⟨b40, 0, none⟩) 2 2]) rfl FRef03.call53 rfl (letheref03_Joined_ok (by exact (Bss.of 0 rfl rfl (fun i hi => match i, hi with | 0, _ => ⟨_, (hf38_0.bx 1 rfl)⟩ | 1, _ => ⟨_, (Bx.arr0 (n := 32) (cc := 32) 2 rfl (by omega) (by omega))⟩ | k + 2, hk => absurd hk (by omega)))) hr41 h40) ?_
 rintro _ w48 ⟨ay0_43, py0_44, ny0_45, cy0_46, Fy0_47, rfl, h48, hf48_0⟩
 obtain rfl := hf48_0.hl
 refine ⟨_, rfl, .inl ⟨PIn.keep PIn.nil h48, ?_⟩⟩
 obtain ⟨x_50, hr49, hR⟩ := hR
 refine Plan.call (vs := [.slice ay0_43 x_42.length cy0_46]) rfl FRef03.call76 rfl (letheref02_Sum_ok (iG4 := iG4 + 8) hG4 (iG5 := iG5 + 8) hG5 (by exact (hf48_0.bx 0 rfl)) hr49 h48) ?_
 rintro _ w51 ⟨rfl, h51⟩
 refine ⟨_, rfl, .inl ⟨PIn.keep PIn.nil h51, ?_⟩⟩
 refine Plan.storeA (f' := fun q => VU .u8 (x_50 q)) h51 7 rfl rfl rfl rfl (fun _ _ => rfl) FRef03.sz22 rfl fun w52 h52 => ?_
 simp only [zca, zna, zsz, zss] at h52
 refine Plan.nil (k29 _ _ ?_); clear k29
 refine W.ret (finR_ret ?_)
 have h53 := St.pickT (C := [_, _, _, _, _, _, _, _]) h52 [] (by decide)
 simp only [pick, zfc, zfn, zgz, zgs, zca, zna] at h53
 subst r
 refine RetOk.mk (.agg h52 rfl (.cons 7 rfl .nil) FRef03.agg22 .nil) ?_
 exact ⟨rfl, h53⟩
theorem letheref03_Extract_ok {B : Nat} {w0 w : World} {L : List Rg} {iG4 : Nat} (hG4 : L[iG4]? = some ⟨some 4, 0, 8, fun q => VU .u64 (H64 q), false⟩) {iG5 : Nat} (hG5 : L[iG5]? = some ⟨some 5, 0, 64, fun q => VU .u64 (K64 q), false⟩) {salt1 : List Byte} {asalt1 : Option Addr} {nsalt1 csalt1 isalt1 : Nat} (hsalt1 : Bx L isalt1 asalt1 nsalt1 csalt1 salt1) {key2 : List Byte} {akey2 : Option Addr} {nkey2 ckey2 ikey2 : Nat} (hkey2 : Bx L ikey2 akey2 nkey2 ckey2 key2) {r : (Nat → BitVec 8)} (hR : letheref03_Extract salt1 key2 r) (HST : St B w0 (L) w) :
  Calls Tryd.prog 60 #[.slice asalt1 nsalt1 csalt1, .slice akey2 nkey2 ckey2] w fun e w' => e = .returned (AG [(32, fun q => VU .u8 (r q))]) ∧ St B w0 (L) w' := by
 refine W.enter 8 Tryd.func60 rfl rfl rfl ?_
 unfold letheref03_Extract at hR
 have esalt1 := hsalt1.hl; subst esalt1
 have ekey2 := hkey2.hl; subst ekey2
 refine W.seq_k fun _ k3 => W.regionT [(0, false)] (by kernel_rfl) ?_
 refine Plan.alloc HST rfl FRef03.z22 PIn.nil fun b4 w4 hb4 h4 => ?_
 simp only [rngs, Nat.zero_add, Nat.reduceAdd, zca, zna] at h4
 refine Plan.nil (k3 _ _ ?_); clear k3
 refine W.seq_k fun _ k5 => W.regionT [(0, true), (1, true), (2, false), (3, false)] (by kernel_rfl) ?_
 refine Plan.move_slice rfl rfl <| Plan.move_slice rfl rfl ?_
 obtain ⟨x_7, hr6, hR⟩ := hR
 refine Plan.call (vs := [.slice asalt1 salt1.length csalt1, .slice akey2 key2.length ckey2]) rfl FRef03.call73 rfl (letheref03_Mac_ok (iG4 := iG4 + 1) hG4 (iG5 := iG5 + 1) hG5 (hsalt1.app [_]) (hkey2.app [_]) hr6 h4) ?_
 rintro _ w8 ⟨rfl, h8⟩
 refine ⟨_, rfl, .inl ⟨PIn.keep PIn.nil h8, ?_⟩⟩
 refine Plan.storeA (f' := fun q => VU .u8 (x_7 q)) h8 0 rfl rfl rfl rfl (fun _ _ => rfl) FRef03.sz22 rfl fun w9 h9 => ?_
 simp only [zca, zna, zsz, zss] at h9
 refine Plan.nil (k5 _ _ ?_); clear k5
 refine W.ret (finR_ret ?_)
 have h10 := St.pickT (C := [_]) h9 [] (by decide)
 simp only [pick, zfc, zfn, zgz, zgs, zca, zna] at h10
 subst r
 refine RetOk.mk (.agg h9 rfl (.cons 0 rfl .nil) FRef03.agg22 .nil) ?_
 exact ⟨rfl, h10⟩
theorem letheref03_Expand_ok {B : Nat} {w0 w : World} {L : List Rg} {iG4 : Nat} (hG4 : L[iG4]? = some ⟨some 4, 0, 8, fun q => VU .u64 (H64 q), false⟩) {iG5 : Nat} (hG5 : L[iG5]? = some ⟨some 5, 0, 64, fun q => VU .u64 (K64 q), false⟩) {prk1 : List Byte} {aprk1 : Option Addr} {nprk1 cprk1 iprk1 : Nat} (hprk1 : Bx L iprk1 aprk1 nprk1 cprk1 prk1) {info2 : List Byte} {ainfo2 : Option Addr} {ninfo2 cinfo2 iinfo2 : Nat} (hinfo2 : Bx L iinfo2 ainfo2 ninfo2 cinfo2 info2) {n_3 : Int} {r : ((List Byte) × Nat) ⊕ ((List Byte) × Nat)} (hR : letheref03_Expand prk1 info2 n_3 r) (HST : St B w0 (L) w) :
  Calls Tryd.prog 61 #[.slice aprk1 nprk1 cprk1, .slice ainfo2 ninfo2 cinfo2, .int .i64 n_3] w fun e w' => match r with | .inl z => ∃ ay0 : Option Addr, ∃ py0 : Option Nat, ∃ ny0 : Nat, ∃ cy0 : Nat, ∃ Fy0 : Nat → Byte, e = .returned (.tuple #[.slice ay0 ny0 cy0, VN z.2]) ∧ St B w0 (⟨py0, 0, cy0, fun q => VU .u8 (Fy0 q), true⟩ :: L) w' ∧ Ow ay0 py0 ny0 cy0 Fy0 z.1 | .inr z => ∃ ry0 : Rg, ∃ ay0 : Option Addr, ∃ ny0 : Nat, ∃ cy0 : Nat, e = .returned (.tuple #[.slice ay0 ny0 cy0, VN z.2]) ∧ St B w0 (ry0 :: L) w' ∧ Bx (ry0 :: L) 0 ay0 ny0 cy0 z.1 := by
 refine W.enter 38 Tryd.func61 rfl rfl rfl ?_
 unfold letheref03_Expand at hR
 have eprk1 := hprk1.hl; subst eprk1
 have einfo2 := hinfo2.hl; subst einfo2
 refine W.seq_k fun _ k4 => W.regionT [(0, true), (1, true)] (by kernel_rfl) ?_
 refine Plan.assign_slice rfl rfl <| Plan.assign_int rfl rfl <| Plan.nil (k4 _ _ ?_); clear k4
 refine W.seq_k fun _ k5 => W.seq_k fun _ k6 => ?_
 refine W.regionT [(0, true), (1, true)] (by kernel_rfl) ?_
 refine Plan.move_int rfl rfl <| Plan.cmpP (a := (n_3 : Int)) (b := (0 : Int)) (p := n_3 < 0) rfl rfl rfl rfl icmp_lt <| Plan.nil (k6 _ _ ?_); clear k6
 by_cases hc7 : n_3 < 0
 ·
  replace hR := ifT hR hc7
  refine W.condT (congrArg Value.bool (decide_eq_true hc7)) ?_
  refine W.seq_k fun _ k8 => W.regionT [(0, true), (1, true)] (by kernel_rfl) ?_
  refine Plan.assign_slice rfl rfl <| Plan.assign_int rfl rfl <| Plan.nil (k8 _ _ ?_); clear k8
  refine W.ret (thenR_ret (finR_ret ?_))
  have h9 := HST.nilR
  subst r
  refine RetOk.mk (.tmp_slice rfl (.tmp_int rfl .nil)) ?_
  exact ⟨none, none, 0, 0, (fun _ => 0#8), rfl, h9, Ow.nil⟩
 ·
  replace hR := ifF hR hc7
  refine W.condF (congrArg Value.bool (decide_eq_false hc7)) ?_
  refine W.skip ?_
  refine k5 _ _ ?_; clear k5
  refine W.seq_k fun _ k10 => W.seq_k fun _ k11 => ?_
  refine W.regionT [(0, true), (1, true)] (by kernel_rfl) ?_
  refine Plan.move_int rfl rfl <| Plan.cmpP (a := (n_3 : Int)) (b := (8160 : Int)) (p := 8160 < n_3) rfl rfl rfl rfl icmp_gt <| Plan.nil (k11 _ _ ?_); clear k11
  by_cases hc12 : 8160 < n_3
  ·
   replace hR := ifT hR hc12
   refine W.condT (congrArg Value.bool (decide_eq_true hc12)) ?_
   refine W.seq_k fun _ k13 => W.regionT [(0, true), (1, true)] (by kernel_rfl) ?_
   refine Plan.assign_slice rfl rfl <| Plan.assign_int rfl rfl <| Plan.nil (k13 _ _ ?_); clear k13
   refine W.ret (thenR_ret (finR_ret ?_))
   have h14 := HST.nilR
   subst r
   refine RetOk.mk (.tmp_slice rfl (.tmp_int rfl .nil)) ?_
   exact ⟨none, none, 0, 0, (fun _ => 0#8), rfl, h14, Ow.nil⟩
  ·
   replace hR := ifF hR hc12
   refine W.condF (congrArg Value.bool (decide_eq_false hc12)) ?_
   refine W.skip ?_
   refine k10 _ _ ?_; clear k10
   refine W.seq_k fun _ k15 => W.regionT [(0, true)] (by kernel_rfl) ?_
   refine Plan.assign_slice rfl rfl <| Plan.nil (k15 _ _ ?_); clear k15
   refine W.seq_k fun _ k16 => W.regionT [(0, true)] (by kernel_rfl) ?_
   refine Plan.assign_slice rfl rfl <| Plan.nil (k16 _ _ ?_); clear k16
   refine W.seq_k fun _ k17 => W.seq_k fun _ k18 => ?_
   refine W.regionT [(0, true)] (by kernel_rfl) ?_
   refine Plan.assign_int rfl rfl <| Plan.nil (k18 _ _ ?_); clear k18
   have h80 := HST.nilR
   have h81 := h80.nilR
   obtain ⟨out78, hI79, hR079⟩ := hR
   refine W.cutN (fun e w => ∃ y_out78 : List Byte, out78 = y_out78 ∧ ∃ aout78 : Option Addr, ∃ pout78 : Option Nat, ∃ cout78 : Nat, ∃ Fout78 : Nat → Byte, EnvHas e [(2, .int .i64 n_3), (8, .slice aout78 y_out78.length cout78)] ∧ St B w0 (⟨pout78, 0, cout78, fun q => VU .u8 (Fout78 q), true⟩ :: L) w ∧ Ow aout78 pout78 y_out78.length cout78 Fout78 y_out78) ?_ ?_
   ·
    refine W.block ?_
    have h82 := St.pickT (C := [_, _]) h81 [1, 0] (by decide)
    simp only [pick, zfc, zfn, zgz, zgs, zca, zna] at h82
    refine W.iter hI79 (fun (s79 : ((List Byte) × (List Byte) × Nat)) e w => ∃ aout73 : Option Addr, ∃ pout73 : Option Nat, ∃ cout73 : Nat, ∃ Fout73 : Nat → Byte, ∃ at75 : Option Addr, ∃ pt75 : Option Nat, ∃ ct75 : Nat, ∃ Ft75 : Nat → Byte, EnvHas e [(0, .slice aprk1 prk1.length cprk1), (1, .slice ainfo2 info2.length cinfo2), (2, .int .i64 n_3), (8, .slice aout73 s79.1.length cout73), (9, .slice at75 s79.2.1.length ct75), (10, VN s79.2.2)] ∧ St B w0 (⟨pout73, 0, cout73, fun q => VU .u8 (Fout73 q), true⟩ :: ⟨pt75, 0, ct75, fun q => VU .u8 (Ft75 q), true⟩ :: L) w ∧ Ow aout73 pout73 s79.1.length cout73 Fout73 s79.1 ∧ Ow at75 pt75 s79.2.1.length ct75 Ft75 s79.2.1) ⟨none, none, 0, (fun _ => 0#8), none, none, 0, (fun _ => 0#8), (zer (zer (zer (zer (zer (zer zen)))))), h82, Ow.nil, Ow.nil⟩ ?_
    rintro ⟨out73, t75, i_77⟩ o79 hR hx79 ev83 wl83 ⟨aout73, pout73, cout73, Fout73, at75, pt75, ct75, Ft75, he83, h83, hout73, ht75⟩
    obtain ⟨ev83, rfl⟩ := he83.open
    unfold letheref03_Expand_l0 at hR
    refine W.seq_k fun _ k84 => W.seq_k fun _ k85 => ?_
    refine W.regionT [(0, true), (1, true), (2, true), (3, true)] (by kernel_rfl) ?_
    refine Plan.move_slice rfl rfl <| Plan.len FRef03.isl40 rfl rfl <| Plan.move_int rfl rfl <| Plan.cmpP (a := (((out73.length : Nat) : Int) : Int)) (b := (n_3 : Int)) (p := ((out73.length : Nat) : Int) < n_3) rfl rfl rfl rfl icmp_lt <| Plan.nil (k85 _ _ ?_); clear k85
    by_cases hc86 : ((out73.length : Nat) : Int) < n_3
    ·
     replace hR := ifT hR hc86
     refine W.condT (congrArg Value.bool (decide_eq_true hc86)) ?_
     refine W.skip ?_
     refine k84 _ _ ?_; clear k84
     refine W.seq_k fun _ k87 => ?_
     refine W.block ?_
     refine W.seq_k fun _ k88 => W.regionT [(0, true), (1, true), (2, true), (3, true), (4, true), (5, false), (6, false), (7, false), (8, false), (9, false), (10, false)] (by kernel_rfl) ?_
     refine Plan.move_slice rfl rfl <| Plan.move_slice rfl rfl <| Plan.move_slice rfl rfl <| Plan.move_int rfl rfl <| Plan.convNU .u8 (a := i_77) FRef03.u5 FRef03.some3 rfl rfl ?_
     refine Plan.buildSlice h83 (ps := [(1, fun q => VU .u8 (lit ([(BitVec.ofNat 8 i_77)] : List Byte) q))]) FRef03.slu40 FRef03.sz5 FRef03.zv5 (by decide) (by decide) rfl rfl rfl (EffO.keep PIn.nil) fun b89 w89 hb89 h89 => ?_
     simp only [rngs, List.cons_append, List.nil_append] at h89
     have ho89 : Ow (some ⟨b89, 0, none⟩) (some b89) ([(BitVec.ofNat 8 i_77)] : List Byte).length 1 (lit ([(BitVec.ofNat 8 i_77)] : List Byte)) ([(BitVec.ofNat 8 i_77)] : List Byte) := ⟨.inr ⟨b89, rfl, rfl⟩, Nat.le_refl _, rfl, fun q _ => rfl⟩
     refine Plan.buildSlice h89 (ps := [(3, fun i => .slice ((fun i => ([at75, ainfo2, some ⟨b89, 0, none⟩] : List (Option Addr)).getD i none) i) ((fun i => ([t75.length, info2.length, ([(BitVec.ofNat 8 i_77)] : List Byte).length] : List Nat).getD i 0) i) ((fun i => ([ct75, cinfo2, 1] : List Nat).getD i 0) i))]) FRef03.slu102 FRef03.sz40 FRef03.zv40 (by decide) (by decide) rfl rfl rfl (EffO.keep PIn.nil) fun b91 w91 hb91 h91 => ?_
     simp only [rngs, List.cons_append, List.nil_append] at h91
     obtain ⟨x_93, hr92, hR⟩ := hR
     refine Plan.call (vs := [.slice (some ⟨b91, 0, none⟩) 3 3]) rfl FRef03.call53 rfl (letheref03_Joined_ok (by exact (Bss.of 0 rfl rfl (fun i hi => match i, hi with | 0, _ => ⟨_, (ht75.bx 3 rfl)⟩ | 1, _ => ⟨_, (hinfo2.app [_, _, _, _])⟩ | 2, _ => ⟨_, (ho89.bx 1 rfl)⟩ | k + 3, hk => absurd hk (by omega)))) hr92 h91) ?_
     rintro _ w99 ⟨ay0_94, py0_95, ny0_96, cy0_97, Fy0_98, rfl, h99, hf99_0⟩
     obtain rfl := hf99_0.hl
     refine ⟨_, rfl, .inl ⟨PIn.keep PIn.nil h99, ?_⟩⟩
     obtain ⟨x_101, hr100, hR⟩ := hR
     refine Plan.call (vs := [.slice aprk1 prk1.length cprk1, .slice ay0_94 x_93.length cy0_97]) rfl FRef03.call73 rfl (letheref03_Mac_ok (iG4 := iG4 + 5) hG4 (iG5 := iG5 + 5) hG5 (hprk1.app [_, _, _, _, _]) (by exact (hf99_0.bx 0 rfl)) hr100 h99) ?_
     rintro _ w102 ⟨rfl, h102⟩
     refine ⟨_, rfl, .inl ⟨PIn.keep PIn.nil h102, ?_⟩⟩
     refine Plan.alloc h102 rfl FRef03.z22 PIn.nil fun b103 w103 hb103 h103 => ?_
     simp only [rngs, Nat.zero_add, Nat.reduceAdd, zca, zna] at h103
     refine Plan.storeA (f' := fun q => VU .u8 (x_101 q)) h103 0 rfl rfl rfl rfl (fun _ _ => rfl) FRef03.sz22 rfl fun w104 h104 => ?_
     simp only [zca, zna, zsz, zss] at h104
     refine Plan.nil (k88 _ _ ?_); clear k88
     refine W.seq_k fun _ k105 => W.regionT [(0, true), (1, true)] (by kernel_rfl) ?_
     refine Plan.slArrO (lo := 0) (hi := 32) (m := 32) (c := 32) (o' := 0) FRef03.arr22 rfl rfl rfl rfl (by omega) (by omega) (by omega) (by omega) <| Plan.assign_slice rfl rfl <| Plan.nil (k105 _ _ ?_); clear k105
     refine W.regionT [(0, true), (1, true), (2, false), (3, true)] (by kernel_rfl) ?_
     refine Plan.move_slice rfl rfl <| Plan.slArrO (lo := 0) (hi := 32) (m := 32) (c := 32) (o' := 0) FRef03.arr22 rfl rfl rfl rfl (by omega) (by omega) (by omega) (by omega) ?_
     obtain ⟨hc107, hR⟩ := hR
     refine Plan.appendO (X := out73) (Y := (dl 32 x_101)) h104 4 hout73 FRef03.el40 FRef03.sl40 rfl rfl rfl rfl (Bx.arr0 (n := 32) (cc := 32) 0 rfl (by omega) (by omega)) hc107 (fun _ => EffO.keep PIn.nil) fun a106 pb106 cap106 F106 w106 ho106 h106 => ?_
     simp only [zca, zna, zsz, zss] at h106
     refine Plan.assign_slice rfl rfl <| Plan.nil ?_
     refine blockR_norm ?_
     refine k87 _ _ ?_; clear k87
     refine W.regionT [(0, true), (1, true), (2, true)] (by kernel_rfl) ?_
     refine Plan.move_int rfl rfl ?_
     obtain ⟨hc108, hR⟩ := hR
     refine Plan.addN (a := i_77) (b := 1) rfl rfl rfl (by omega) <| Plan.assign_int rfl rfl <| Plan.nil ?_
     have h109 := St.pickT (C := [_, _, _, _, _, _]) h106 [4, 0] (by decide)
     simp only [pick, zfc, zfn, zgz, zgs, zca, zna] at h109
     exact iterR_norm ⟨_, hR, a106, pb106, cap106, F106, some ⟨b103, 0, none⟩, some b103, 32, x_101, (zer (zer (zer (zer (zer (zer zen)))))), h109, ho106, Ow.arr⟩
    ·
     replace hR := ifF hR hc86
     refine W.condF (congrArg Value.bool (decide_eq_false hc86)) ?_
     refine W.exit (thenR_exit (iterR_exit (blockR_here ?_)))
     have h110 := St.pickT (C := [_, _]) h83 [0] (by decide)
     simp only [pick, zfc, zfn, zgz, zgs, zca, zna] at h110
     exact ⟨out73, (hx79 _ hR).symm, aout73, pout73, cout73, Fout73, (zer (zer zen)), h110, hout73⟩
   ·
    rintro ev111 wl111 ⟨y_out78, hy111, aout78, pout78, cout78, Fout78, he111, h111, hout78⟩
    obtain ⟨ev111, rfl⟩ := he111.open
    subst hy111
    replace hR := hR079
    refine k17 _ _ ?_; clear k17
    refine W.seq_k fun _ k112 => W.regionT [(0, true), (1, true), (2, true), (3, true), (4, true)] (by kernel_rfl) ?_
    refine Plan.move_slice rfl rfl <| Plan.move_int rfl rfl ?_
    obtain ⟨hc113, hR⟩ := hR
    obtain ⟨hc114, hR⟩ := hR
    have hm115 := hout78.hc
    refine Plan.slSl (lo := 0) (hi := n_3.toNat) FRef03.sl40 rfl rfl rfl ⟨_, congrArg (Value.int .i64) (Int.toNat_of_nonneg hc113).symm⟩ (by omega) <| Plan.assign_slice rfl rfl <| Plan.assign_int rfl rfl <| Plan.nil (k112 _ _ ?_); clear k112
    refine W.ret (finR_ret ?_)
    subst r
    refine RetOk.mk (.tmp_slice rfl (.tmp_int rfl .nil)) ?_
    exact ⟨⟨pout78, 0, cout78, fun q => VU .u8 (Fout78 q), true⟩, (if cout78 = 0 then (aout78 : Option Addr) else (aout78 : Option Addr).map (·.add (0 * 1))), (n_3.toNat - 0), (cout78 - 0), rfl, h111, ((hout78.bx 0 rfl).seg (lo := 0) (hi := n_3.toNat) hc114)⟩
theorem letheref03_Derive_ok {B : Nat} {w0 w : World} {L : List Rg} {iG4 : Nat} (hG4 : L[iG4]? = some ⟨some 4, 0, 8, fun q => VU .u64 (H64 q), false⟩) {iG5 : Nat} (hG5 : L[iG5]? = some ⟨some 5, 0, 64, fun q => VU .u64 (K64 q), false⟩) {salt1 : List Byte} {asalt1 : Option Addr} {nsalt1 csalt1 isalt1 : Nat} (hsalt1 : Bx L isalt1 asalt1 nsalt1 csalt1 salt1) {key2 : List Byte} {akey2 : Option Addr} {nkey2 ckey2 ikey2 : Nat} (hkey2 : Bx L ikey2 akey2 nkey2 ckey2 key2) {info3 : List Byte} {ainfo3 : Option Addr} {ninfo3 cinfo3 iinfo3 : Nat} (hinfo3 : Bx L iinfo3 ainfo3 ninfo3 cinfo3 info3) {n_4 : Int} {r : ((List Byte) × Nat) ⊕ ((List Byte) × Nat)} (hR : letheref03_Derive salt1 key2 info3 n_4 r) (HST : St B w0 (L) w) :
  Calls Tryd.prog 52 #[.slice asalt1 nsalt1 csalt1, .slice akey2 nkey2 ckey2, .slice ainfo3 ninfo3 cinfo3, .int .i64 n_4] w fun e w' => match r with | .inl z => ∃ ay0 : Option Addr, ∃ py0 : Option Nat, ∃ ny0 : Nat, ∃ cy0 : Nat, ∃ Fy0 : Nat → Byte, e = .returned (.tuple #[.slice ay0 ny0 cy0, VN z.2]) ∧ St B w0 (⟨py0, 0, cy0, fun q => VU .u8 (Fy0 q), true⟩ :: L) w' ∧ Ow ay0 py0 ny0 cy0 Fy0 z.1 | .inr z => ∃ ry0 : Rg, ∃ ay0 : Option Addr, ∃ ny0 : Nat, ∃ cy0 : Nat, e = .returned (.tuple #[.slice ay0 ny0 cy0, VN z.2]) ∧ St B w0 (ry0 :: L) w' ∧ Bx (ry0 :: L) 0 ay0 ny0 cy0 z.1 := by
 refine W.enter 20 Tryd.func52 rfl rfl rfl ?_
 unfold letheref03_Derive at hR
 have esalt1 := hsalt1.hl; subst esalt1
 have ekey2 := hkey2.hl; subst ekey2
 have einfo3 := hinfo3.hl; subst einfo3
 refine W.seq_k fun _ k5 => W.regionT [(0, true), (1, true)] (by kernel_rfl) ?_
 refine Plan.assign_slice rfl rfl <| Plan.assign_int rfl rfl <| Plan.nil (k5 _ _ ?_); clear k5
 refine W.seq_k fun _ k6 => W.regionT [(0, true), (1, true), (2, false), (3, false), (4, false)] (by kernel_rfl) ?_
 refine Plan.move_slice rfl rfl <| Plan.move_slice rfl rfl ?_
 obtain ⟨x_8, hr7, hR⟩ := hR
 refine Plan.call (vs := [.slice asalt1 salt1.length csalt1, .slice akey2 key2.length ckey2]) rfl FRef03.call60 rfl (letheref03_Extract_ok (iG4 := iG4 + 0) hG4 (iG5 := iG5 + 0) hG5 hsalt1 hkey2 hr7 HST) ?_
 rintro _ w9 ⟨rfl, h9⟩
 refine ⟨_, rfl, .inl ⟨PIn.keep PIn.nil h9, ?_⟩⟩
 refine Plan.alloc h9 rfl FRef03.z22 PIn.nil fun b10 w10 hb10 h10 => ?_
 simp only [rngs, Nat.zero_add, Nat.reduceAdd, zca, zna] at h10
 refine Plan.storeA (f' := fun q => VU .u8 (x_8 q)) h10 0 rfl rfl rfl rfl (fun _ _ => rfl) FRef03.sz22 rfl fun w11 h11 => ?_
 simp only [zca, zna, zsz, zss] at h11
 refine Plan.nil (k6 _ _ ?_); clear k6
 refine W.seq_k fun _ k12 => W.regionT [(0, true), (1, true), (2, true), (3, false), (4, true), (5, true), (6, true), (7, true)] (by kernel_rfl) ?_
 refine Plan.slArrO (lo := 0) (hi := 32) (m := 32) (c := 32) (o' := 0) FRef03.arr22 rfl rfl rfl rfl (by omega) (by omega) (by omega) (by omega) <| Plan.move_slice rfl rfl <| Plan.move_int rfl rfl ?_
 rcases hR with ⟨x_14, x_15, hr13, hR⟩ | ⟨x_16, x_17, hr13, hR⟩
 ·
  refine Plan.call (vs := [.slice (some ⟨b10, 0, none⟩) 32 32, .slice ainfo3 info3.length cinfo3, .int .i64 n_4]) rfl FRef03.call61 rfl (letheref03_Expand_ok (iG4 := iG4 + 1) hG4 (iG5 := iG5 + 1) hG5 (by exact (Bx.arr0 (n := 32) (cc := 32) 0 rfl (by omega) (by omega))) (hinfo3.app [_]) hr13 h11) ?_
  rintro _ w23 ⟨ay0_18, py0_19, ny0_20, cy0_21, Fy0_22, rfl, h23, hf23_0⟩
  try dsimp only at hf23_0
  obtain rfl := hf23_0.hl
  refine ⟨_, rfl, .inl ⟨PIn.keep PIn.nil h23, ?_⟩⟩
  refine Plan.extract_slice rfl rfl rfl <| Plan.extract_int rfl rfl rfl <| Plan.assign_slice rfl rfl <| Plan.assign_int rfl rfl <| Plan.nil (k12 _ _ ?_); clear k12
  refine W.ret (finR_ret ?_)
  have h24 := St.pickT (C := [_, _]) h23 [0] (by decide)
  simp only [pick, zfc, zfn, zgz, zgs, zca, zna] at h24
  subst r
  refine RetOk.mk (.tmp_slice rfl (.tmp_int rfl .nil)) ?_
  exact ⟨ay0_18, py0_19, x_14.length, cy0_21, Fy0_22, rfl, h24, hf23_0⟩
 ·
  refine Plan.call (vs := [.slice (some ⟨b10, 0, none⟩) 32 32, .slice ainfo3 info3.length cinfo3, .int .i64 n_4]) rfl FRef03.call61 rfl (letheref03_Expand_ok (iG4 := iG4 + 1) hG4 (iG5 := iG5 + 1) hG5 (by exact (Bx.arr0 (n := 32) (cc := 32) 0 rfl (by omega) (by omega))) (hinfo3.app [_]) hr13 h11) ?_
  rintro _ w29 ⟨ry0_25, ay0_26, ny0_27, cy0_28, rfl, h29, hf29_0⟩
  try dsimp only at hf29_0
  obtain rfl := hf29_0.hl
  refine ⟨_, rfl, .inl ⟨PIn.keep PIn.nil h29, ?_⟩⟩
  refine Plan.extract_slice rfl rfl rfl <| Plan.extract_int rfl rfl rfl <| Plan.assign_slice rfl rfl <| Plan.assign_int rfl rfl <| Plan.nil (k12 _ _ ?_); clear k12
  refine W.ret (finR_ret ?_)
  have h30 := St.pickT (C := [_, _]) h29 [0] (by decide)
  simp only [pick, zfc, zfn, zgz, zgs, zca, zna] at h30
  subst r
  refine RetOk.mk (.tmp_slice rfl (.tmp_int rfl .nil)) ?_
  exact ⟨ry0_25, ay0_26, x_16.length, cy0_28, rfl, h30, (Bx.move (j := 0) hf29_0 rfl rfl)⟩
end Go.Proofs.YtjclppnbbpnfnaaDoor
