/-
 WALKS of the package's functions, printed by this session's own program (auto.py).
-/
import Derived.Test.YthjkmhdgenmnoaaDoorProg
import Derived.Test.YthjkmhdgenmnoaaDoorEc
import Derived.Test.YthjkmhdgenmnoaaDoorRRef03
import Derived.Test.YthjkmhdgenmnoaaDoorEls
import Derived.Test.YthjkmhdgenmnoaaDoorWRef02
namespace Go.Proofs.YthjkmhdgenmnoaaDoor
set_option linter.unusedSimpArgs false
set_option linter.unusedVariables false
set_option linter.unusedSectionVars false
set_option maxRecDepth 8000
set_option maxHeartbeats 1000000
open Go Go.LW
theorem FRef03.mixed : Tryd.prog.follows .mixedOrders = true := by kernel_rfl
theorem FRef03.sc24 : scalarT Tryd.prog 24 = true := by kernel_rfl
theorem FRef03.el24 : elD Tryd.prog 24 = some (1, 1, some (VU .u8 0#8)) := by kernel_rfl
theorem FRef03.sl24 : slB Tryd.prog 24 1 = true := by kernel_rfl
theorem FRef03.zv5 : (Tryd.prog.info? 5).bind (·.zero) = some (VU .u8 0#8) := by kernel_rfl
theorem FRef03.slu24 : Tryd.prog.underlying 24 = some (.slice 5) := by kernel_rfl
theorem FRef03.sz5 : szT Tryd.prog 5 1 = true := by kernel_rfl
theorem FRef03.isl24 : ∃ el, Tryd.prog.underlying 24 = some (.slice el) := ⟨5, by kernel_rfl⟩
theorem FRef03.u5 : Tryd.prog.underlying 5 = some (.int .u8) := by kernel_rfl
theorem FRef03.zv24 : (Tryd.prog.info? 24).bind (·.zero) = some (.slice none 0 0) := by kernel_rfl
theorem FRef03.slu40 : Tryd.prog.underlying 40 = some (.slice 24) := by kernel_rfl
theorem FRef03.sz24 : szT Tryd.prog 24 1 = true := by kernel_rfl
theorem FRef03.isl40 : ∃ el, Tryd.prog.underlying 40 = some (.slice el) := ⟨24, by kernel_rfl⟩
theorem FRef03.sl40 : slB Tryd.prog 40 1 = true := by kernel_rfl
theorem FRef03.sc5 : scalarT Tryd.prog 5 = true := by kernel_rfl
theorem FRef03.some5 : (Tryd.prog.underlying 5).isSome = true := by kernel_rfl
theorem FRef03.some3 : (Tryd.prog.underlying 3).isSome = true := by kernel_rfl
theorem FRef03.agg22 : aggT Tryd.prog 22 32 = true := by kernel_rfl
theorem FRef03.arr22 : arrB Tryd.prog 22 32 1 = true := by kernel_rfl
theorem FRef03.z22 : zeroIs Tryd.prog 22 [(32, fun _ => VU .u8 0#8)] := zeroIs_agg (by kernel_rfl)
theorem FRef03.sz22 : szT Tryd.prog 22 32 = true := by kernel_rfl
theorem FRef03.call65 : callB Tryd.prog 65 = true := by kernel_rfl
theorem FRef03.u3 : Tryd.prog.underlying 3 = some (.int .i64) := by kernel_rfl
theorem FRef03.call66 : callB Tryd.prog 66 = true := by kernel_rfl
theorem FRef03.call47 : callB Tryd.prog 47 = true := by kernel_rfl
theorem FRef03.call59 : callB Tryd.prog 59 = true := by kernel_rfl
theorem FRef03.call61 : callB Tryd.prog 61 = true := by kernel_rfl
theorem FRef03.call62 : callB Tryd.prog 62 = true := by kernel_rfl
theorem letheref03_turned_ok {B : Nat} {w0 w : World} {L : List Rg} {iG2 : Nat} (hG2 : L[iG2]? = some ⟨some 2, 0, 8, fun q => VU .u64 (H64 q), false⟩) {iG3 : Nat} (hG3 : L[iG3]? = some ⟨some 3, 0, 64, fun q => VU .u64 (K64 q), false⟩) {key1 : List Byte} {akey1 : Option Addr} {nkey1 ckey1 ikey1 : Nat} (hkey1 : Bx L ikey1 akey1 nkey1 ckey1 key1) {x_2 : Int} {r : (List Byte)} (hR : letheref03_turned key1 x_2 r) (HST : St B w0 (L) w) :
  Calls Tryd.prog 66 #[.slice akey1 nkey1 ckey1, .int .i64 x_2] w fun e w' => ∃ ay0 : Option Addr, ∃ py0 : Option Nat, ∃ ny0 : Nat, ∃ cy0 : Nat, ∃ Fy0 : Nat → Byte, e = .returned (.slice ay0 ny0 cy0) ∧ St B w0 (⟨py0, 0, cy0, fun q => VU .u8 (Fy0 q), true⟩ :: L) w' ∧ Ow ay0 py0 ny0 cy0 Fy0 r := by
 refine W.enter 53 Tryd.func66 rfl rfl rfl ?_
 unfold letheref03_turned at hR
 have ekey1 := hkey1.hl; subst ekey1
 refine W.seq_k fun _ k3 => W.regionT [(0, true)] (by kernel_rfl) ?_
 refine Plan.assign_slice rfl rfl <| Plan.nil (k3 _ _ ?_); clear k3
 refine W.seq_k fun _ k4 => W.regionT [(0, false), (1, true)] (by kernel_rfl) ?_
 refine Plan.makeO (len := 64) (c := 64) HST FRef03.el24 rfl rfl rfl (by omega) (by omega) (fun _ => EffO.keep PIn.nil) fun b5 w5 hb5 ho5 h5 => ?_
 refine Plan.assign_slice rfl rfl <| Plan.nil (k4 _ _ ?_); clear k4
 refine W.seq_k fun _ k6 => W.seq_k fun _ k15 => ?_
 refine W.regionT [(0, true), (1, true), (2, true)] (by kernel_rfl) ?_
 refine Plan.move_slice rfl rfl <| Plan.len FRef03.isl24 rfl rfl <| Plan.cmpP (a := (((key1.length : Nat) : Int) : Int)) (b := (64 : Int)) (p := 64 < key1.length) rfl rfl rfl rfl icmp_gtN <| Plan.nil (k15 _ _ ?_); clear k15
 by_cases hc16 : 64 < key1.length
 ·
  replace hR := ifT hR hc16
  refine W.condT (congrArg Value.bool (decide_eq_true hc16)) ?_
  refine W.seq_k fun _ k17 => W.regionT [(0, true), (1, false), (2, false), (3, false)] (by kernel_rfl) ?_
  refine Plan.move_slice rfl rfl ?_
  obtain ⟨x_19, hr18, hR⟩ := hR
  refine Plan.call (vs := [.slice akey1 key1.length ckey1]) rfl FRef03.call65 rfl (letheref02_Sum_ok (iG2 := iG2 + 1) hG2 (iG3 := iG3 + 1) hG3 (hkey1.app [_]) hr18 h5) ?_
  rintro _ w20 ⟨rfl, h20⟩
  refine ⟨_, rfl, .inl ⟨PIn.keep PIn.nil h20, ?_⟩⟩
  refine Plan.alloc h20 rfl FRef03.z22 PIn.nil fun b21 w21 hb21 h21 => ?_
  simp only [rngs, Nat.zero_add, Nat.reduceAdd, zca, zna] at h21
  refine Plan.storeA (f' := fun q => VU .u8 (x_19 q)) h21 0 rfl rfl rfl rfl (fun _ _ => rfl) FRef03.sz22 rfl fun w22 h22 => ?_
  simp only [zca, zna, zsz, zss] at h22
  refine Plan.nil (k17 _ _ ?_); clear k17
  refine W.regionT [(0, true), (1, true)] (by kernel_rfl) ?_
  refine Plan.slArrO (lo := 0) (hi := 32) (m := 32) (c := 32) (o' := 0) FRef03.arr22 rfl rfl rfl rfl (by omega) (by omega) (by omega) (by omega) <| Plan.assign_slice rfl rfl <| Plan.nil (k6 _ _ ?_); clear k6
  refine W.seq_k fun _ k23 => W.seq_k fun _ k24 => ?_
  refine W.regionT [(0, true)] (by kernel_rfl) ?_
  refine Plan.assign_int rfl rfl <| Plan.nil (k24 _ _ ?_); clear k24
  obtain ⟨out172, hI173, hR0173⟩ := hR
  refine W.cutN (fun e w => ∃ y_out172 : List Byte, out172 = y_out172 ∧ ∃ aout172 : Option Addr, ∃ pout172 : Option Nat, ∃ cout172 : Nat, ∃ Fout172 : Nat → Byte, EnvHas e [(5, .slice aout172 ((List.replicate 64 0#8).length) cout172)] ∧ St B w0 (⟨pout172, 0, cout172, fun q => VU .u8 (Fout172 q), true⟩ :: L) w ∧ Ow aout172 pout172 ((List.replicate 64 0#8).length) cout172 Fout172 y_out172) ?_ ?_
  ·
   refine W.block ?_
   refine W.iter hI173 (fun (s173 : ((List Byte) × (List Byte) × Nat)) e w => ∃ akey169 : Option Addr, ∃ pkey169 : Option Nat, ∃ ckey169 : Nat, ∃ Fkey169 : Nat → Byte, ∃ aout170 : Option Addr, ∃ pout170 : Option Nat, ∃ cout170 : Nat, ∃ Fout170 : Nat → Byte, EnvHas e [(0, .slice akey169 32 ckey169), (1, .int .i64 x_2), (5, .slice aout170 ((List.replicate 64 0#8).length) cout170), (7, VN s173.2.2)] ∧ St B w0 (⟨pkey169, 0, ckey169, fun q => VU .u8 (Fkey169 q), true⟩ :: ⟨pout170, 0, cout170, fun q => VU .u8 (Fout170 q), true⟩ :: L) w ∧ Ow akey169 pkey169 32 ckey169 Fkey169 s173.1 ∧ Ow aout170 pout170 ((List.replicate 64 0#8).length) cout170 Fout170 s173.2.1) ⟨some ⟨b21, 0, none⟩, some b21, 32, x_19, some ⟨b5, 0, none⟩, some b5, 64, (fun _ => 0#8), (zer (zer (zer (zer zen)))), h22, Ow.arr, ho5⟩ ?_
   rintro ⟨key169, out170, i_171⟩ o173 hR hx173 ev174 wl174 ⟨akey169, pkey169, ckey169, Fkey169, aout170, pout170, cout170, Fout170, he174, h174, hkey169, hout170⟩
   obtain ⟨ev174, rfl⟩ := he174.open
   unfold letheref03_turned_l0 at hR
   refine W.seq_k fun _ k175 => W.seq_k fun _ k176 => ?_
   refine W.regionT [(0, true), (1, true)] (by kernel_rfl) ?_
   refine Plan.move_int rfl rfl <| Plan.cmpP (a := (((i_171 : Nat) : Int) : Int)) (b := (64 : Int)) (p := i_171 < 64) rfl rfl rfl rfl icmp_ltN <| Plan.nil (k176 _ _ ?_); clear k176
   by_cases hc177 : i_171 < 64
   ·
    replace hR := ifT hR hc177
    refine W.condT (congrArg Value.bool (decide_eq_true hc177)) ?_
    refine W.skip ?_
    refine k175 _ _ ?_; clear k175
    refine W.seq_k fun _ k178 => ?_
    refine W.block ?_
    refine W.seq_k fun _ k179 => W.regionT [(0, true)] (by kernel_rfl) ?_
    refine Plan.assign_int rfl rfl <| Plan.nil (k179 _ _ ?_); clear k179
    refine W.seq_k fun _ k180 => ?_
    obtain ⟨key185, out186, k187, hX188, hR0188⟩ := hR
    refine W.cutN (fun e w => ∃ y_key185 : List Byte, ∃ y_out186 : List Byte, ∃ y_k187 : Nat, (key185 = y_key185 ∧ out186 = y_out186 ∧ k187 = y_k187) ∧ ∃ akey185 : Option Addr, ∃ pkey185 : Option Nat, ∃ ckey185 : Nat, ∃ Fkey185 : Nat → Byte, ∃ aout186 : Option Addr, ∃ pout186 : Option Nat, ∃ cout186 : Nat, ∃ Fout186 : Nat → Byte, EnvHas e [(0, .slice akey185 32 ckey185), (1, .int .i64 x_2), (5, .slice aout186 ((List.replicate 64 0#8).length) cout186), (7, VN i_171), (8, VN y_k187)] ∧ St B w0 (⟨pkey185, 0, ckey185, fun q => VU .u8 (Fkey185 q), true⟩ :: ⟨pout186, 0, cout186, fun q => VU .u8 (Fout186 q), true⟩ :: L) w ∧ Ow akey185 pkey185 32 ckey185 Fkey185 y_key185 ∧ Ow aout186 pout186 ((List.replicate 64 0#8).length) cout186 Fout186 y_out186) ?_ ?_
    ·
     replace hR := hX188
     refine W.seq_k fun _ k189 => W.regionT [(0, true), (1, true), (2, true), (3, true)] (by kernel_rfl) ?_
     refine Plan.move_int rfl rfl <| Plan.move_slice rfl rfl <| Plan.len FRef03.isl24 rfl rfl <| Plan.cmpP (a := (((i_171 : Nat) : Int) : Int)) (b := (32 : Int)) (p := i_171 < 32) rfl rfl rfl rfl icmp_ltN <| Plan.nil (k189 _ _ ?_); clear k189
     by_cases hc190 : i_171 < 32
     ·
      replace hR := ifT hR hc190
      refine W.condT (congrArg Value.bool (decide_eq_true hc190)) ?_
      refine W.regionT [(0, true), (1, true), (2, true), (3, true), (4, true), (5, true)] (by kernel_rfl) ?_
      refine Plan.move_slice rfl rfl <| Plan.move_int rfl rfl ?_
      obtain ⟨hc191, hR⟩ := hR
      refine Plan.idxVS (j := i_171) h174 (hkey169.bx 0 rfl) FRef03.sl24 rfl rfl rfl hc191 ?_
      refine Plan.loadV (j := i_171) h174 (hkey169.bx 0 rfl) rfl rfl hc191 FRef03.sc5 fun r192 hr192 => ?_
      refine Plan.convN (a := (lit key169 i_171).toNat) FRef03.u3 FRef03.some5 rfl rfl (Nat.lt_of_lt_of_le (lit key169 i_171).isLt (by decide)) <| Plan.assign_int rfl rfl <| Plan.nil ?_
      exact ⟨key169, out170, (lit key169 i_171).toNat, hR, akey169, pkey169, ckey169, Fkey169, aout170, pout170, cout170, Fout170, (zer (zer (zer (zer (zer zen))))), h174, hkey169, hout170⟩
     ·
      replace hR := ifF hR hc190
      refine W.condF (congrArg Value.bool (decide_eq_false hc190)) ?_
      refine W.skip ?_
      exact ⟨key169, out170, 0, hR, akey169, pkey169, ckey169, Fkey169, aout170, pout170, cout170, Fout170, (zer (zer (zer (zer (zer zen))))), h174, hkey169, hout170⟩
    ·
     rintro ev193 wl193 ⟨y_key185, y_out186, y_k187, ⟨hy193_0, hy193_1, hy193_2⟩, akey185, pkey185, ckey185, Fkey185, aout186, pout186, cout186, Fout186, he193, h193, hkey185, hout186⟩
     subst hy193_0
     subst hy193_1
     subst hy193_2
     obtain ⟨ev193, rfl⟩ := he193.open
     replace hR := hR0188
     refine k180 _ _ ?_; clear k180
     refine W.seq_k fun _ k194 => W.regionT [(0, true)] (by kernel_rfl) ?_
     refine Plan.assign_int rfl rfl <| Plan.nil (k194 _ _ ?_); clear k194
     refine W.seq_k fun _ k195 => W.seq_k fun _ k196 => ?_
     refine W.regionT [(0, true)] (by kernel_rfl) ?_
     refine Plan.assign_int rfl rfl <| Plan.nil (k196 _ _ ?_); clear k196
     obtain ⟨key229, out230, n_231, hI232, hR0232⟩ := hR
     refine W.cutN (fun e w => ∃ y_key229 : List Byte, ∃ y_out230 : List Byte, ∃ y_n_231 : Nat, (key229, out230, n_231) = (y_key229, y_out230, y_n_231) ∧ ∃ akey229 : Option Addr, ∃ pkey229 : Option Nat, ∃ ckey229 : Nat, ∃ Fkey229 : Nat → Byte, ∃ aout230 : Option Addr, ∃ pout230 : Option Nat, ∃ cout230 : Nat, ∃ Fout230 : Nat → Byte, EnvHas e [(0, .slice akey229 32 ckey229), (1, .int .i64 x_2), (5, .slice aout230 ((List.replicate 64 0#8).length) cout230), (7, VN i_171), (9, VN y_n_231)] ∧ St B w0 (⟨pkey229, 0, ckey229, fun q => VU .u8 (Fkey229 q), true⟩ :: ⟨pout230, 0, cout230, fun q => VU .u8 (Fout230 q), true⟩ :: L) w ∧ Ow akey229 pkey229 32 ckey229 Fkey229 y_key229 ∧ Ow aout230 pout230 ((List.replicate 64 0#8).length) cout230 Fout230 y_out230) ?_ ?_
     ·
      refine W.block ?_
      refine W.iter hI232 (fun (s232 : ((List Byte) × (List Byte) × Nat × Nat)) e w => ∃ akey225 : Option Addr, ∃ pkey225 : Option Nat, ∃ ckey225 : Nat, ∃ Fkey225 : Nat → Byte, ∃ aout226 : Option Addr, ∃ pout226 : Option Nat, ∃ cout226 : Nat, ∃ Fout226 : Nat → Byte, EnvHas e [(0, .slice akey225 32 ckey225), (1, .int .i64 x_2), (5, .slice aout226 ((List.replicate 64 0#8).length) cout226), (7, VN i_171), (8, VN k187), (9, VN s232.2.2.1), (10, VN s232.2.2.2)] ∧ St B w0 (⟨pkey225, 0, ckey225, fun q => VU .u8 (Fkey225 q), true⟩ :: ⟨pout226, 0, cout226, fun q => VU .u8 (Fout226 q), true⟩ :: L) w ∧ Ow akey225 pkey225 32 ckey225 Fkey225 s232.1 ∧ Ow aout226 pout226 ((List.replicate 64 0#8).length) cout226 Fout226 s232.2.1) ⟨akey185, pkey185, ckey185, Fkey185, aout186, pout186, cout186, Fout186, (zer (zer (zer (zer (zer (zer (zer zen))))))), h193, hkey185, hout186⟩ ?_
      rintro ⟨key225, out226, n_227, bit228⟩ o232 hR hx232 ev233 wl233 ⟨akey225, pkey225, ckey225, Fkey225, aout226, pout226, cout226, Fout226, he233, h233, hkey225, hout226⟩
      obtain ⟨ev233, rfl⟩ := he233.open
      unfold letheref03_turned_l1 at hR
      refine W.seq_k fun _ k234 => W.seq_k fun _ k235 => ?_
      refine W.regionT [(0, true), (1, true)] (by kernel_rfl) ?_
      refine Plan.move_int rfl rfl <| Plan.cmpP (a := (((bit228 : Nat) : Int) : Int)) (b := (256 : Int)) (p := bit228 < 256) rfl rfl rfl rfl icmp_ltN <| Plan.nil (k235 _ _ ?_); clear k235
      by_cases hc236 : bit228 < 256
      ·
       replace hR := ifT hR hc236
       refine W.condT (congrArg Value.bool (decide_eq_true hc236)) ?_
       refine W.skip ?_
       refine k234 _ _ ?_; clear k234
       refine W.seq_k fun _ k237 => ?_
       refine W.block ?_
       refine W.seq_k fun _ k238 => ?_
       refine W.regionD FRef03.mixed [(0, true), (1, true), (2, true), (3, true), (4, true), (5, true), (6, true), (7, true), (8, true)] (by kernel_rfl) ?_
       have h239 := h233.drew
       refine Plan.move_int rfl rfl <| Plan.move_int rfl rfl ?_
       obtain ⟨hc240, hR⟩ := hR
       obtain ⟨hc241, hR⟩ := hR
       refine Plan.quoN (a := k187) (b := bit228) rfl rfl rfl (by omega) <| Plan.remN (a := (k187 / bit228)) (b := 2) rfl rfl rfl (by omega) <| Plan.move_int rfl rfl <| Plan.move_int rfl rfl ?_
       obtain ⟨hc242, hR⟩ := hR
       obtain ⟨hc243, hR⟩ := hR
       refine Plan.quoIw (a := x_2) (b := ((bit228 : Nat) : Int)) rfl rfl rfl hc242 hc243 ?_
       have hb244 := tmod_bd (x_2.tdiv ((bit228 : Nat) : Int)) (c := 2) (by decide)
       refine Plan.remI (a := (x_2.tdiv ((bit228 : Nat) : Int))) (b := 2) rfl rfl rfl (by omega) <| Plan.cmpP (a := (((((k187 / bit228) % 2) : Nat) : Int) : Int)) (b := (((x_2.tdiv ((bit228 : Nat) : Int)).tmod 2) : Int)) (p := ((((k187 / bit228) % 2) : Nat) : Int) ≠ ((x_2.tdiv ((bit228 : Nat) : Int)).tmod 2)) rfl rfl rfl rfl icmp_ne <| Plan.nil (k238 _ _ ?_); clear k238
       by_cases hc245 : ((((k187 / bit228) % 2) : Nat) : Int) ≠ ((x_2.tdiv ((bit228 : Nat) : Int)).tmod 2)
       ·
        replace hR := ifT hR hc245
        refine W.condT (congrArg Value.bool (decide_eq_true hc245)) ?_
        refine W.regionT [(0, true), (1, true), (2, true), (3, true)] (by kernel_rfl) ?_
        refine Plan.move_int rfl rfl <| Plan.move_int rfl rfl ?_
        obtain ⟨hc246, hR⟩ := hR
        refine Plan.addN (a := n_227) (b := bit228) rfl rfl rfl (by omega) <| Plan.assign_int rfl rfl <| Plan.nil ?_
        refine blockR_norm ?_
        refine k237 _ _ ?_; clear k237
        refine W.regionT [(0, true), (1, true), (2, true)] (by kernel_rfl) ?_
        refine Plan.move_int rfl rfl <| Plan.mulN (a := bit228) (b := 2) rfl rfl rfl (by omega) <| Plan.assign_int rfl rfl <| Plan.nil ?_
        exact iterR_norm ⟨_, hR, akey225, pkey225, ckey225, Fkey225, aout226, pout226, cout226, Fout226, (zer (zer (zer (zer (zer (zer (zer zen))))))), h239, hkey225, hout226⟩
       ·
        replace hR := ifF hR hc245
        refine W.condF (congrArg Value.bool (decide_eq_false hc245)) ?_
        refine W.skip ?_
        refine blockR_norm ?_
        refine k237 _ _ ?_; clear k237
        refine W.regionT [(0, true), (1, true), (2, true)] (by kernel_rfl) ?_
        refine Plan.move_int rfl rfl <| Plan.mulN (a := bit228) (b := 2) rfl rfl rfl (by omega) <| Plan.assign_int rfl rfl <| Plan.nil ?_
        exact iterR_norm ⟨_, hR, akey225, pkey225, ckey225, Fkey225, aout226, pout226, cout226, Fout226, (zer (zer (zer (zer (zer (zer (zer zen))))))), h239, hkey225, hout226⟩
      ·
       replace hR := ifF hR hc236
       refine W.condF (congrArg Value.bool (decide_eq_false hc236)) ?_
       refine W.exit (thenR_exit (iterR_exit (blockR_here ?_)))
       exact ⟨key225, out226, n_227, (hx232 _ hR).symm, akey225, pkey225, ckey225, Fkey225, aout226, pout226, cout226, Fout226, (zer (zer (zer (zer (zer zen))))), h233, hkey225, hout226⟩
     ·
      rintro ev247 wl247 ⟨y_key229, y_out230, y_n_231, hy247, akey229, pkey229, ckey229, Fkey229, aout230, pout230, cout230, Fout230, he247, h247, hkey229, hout230⟩
      obtain ⟨ev247, rfl⟩ := he247.open
      cases hy247
      replace hR := hR0232
      refine k195 _ _ ?_; clear k195
      refine W.regionT [(0, true), (1, true), (2, true), (3, true), (4, true), (5, false)] (by kernel_rfl) ?_
      refine Plan.move_slice rfl rfl <| Plan.move_int rfl rfl <| Plan.move_int rfl rfl <| Plan.convNU .u8 (a := n_231) FRef03.u5 FRef03.some3 rfl rfl ?_
      obtain ⟨hc248, hR⟩ := hR
      refine Plan.idxVS (j := i_171) h247 (hout230.bx 1 rfl) FRef03.sl24 rfl rfl rfl hc248 ?_
      refine Plan.storeO (j := i_171) (Y := (BitVec.ofNat 8 n_231)) h247 1 hout230 rfl rfl rfl rfl hc248 FRef03.sz5 rfl fun w249 F249 ho249 h249 => ?_
      simp only [zca, zna, zsz, zss] at h249
      have e249 : (out230.set i_171 (BitVec.ofNat 8 n_231)).length = out230.length := List.length_set
      refine Plan.nil ?_
      refine blockR_norm ?_
      refine k178 _ _ ?_; clear k178
      refine W.regionT [(0, true), (1, true), (2, true)] (by kernel_rfl) ?_
      refine Plan.move_int rfl rfl <| Plan.addN (a := i_171) (b := 1) rfl rfl rfl (by omega) <| Plan.assign_int rfl rfl <| Plan.nil ?_
      exact iterR_norm ⟨_, hR, akey229, pkey229, ckey229, Fkey229, aout230, pout230, cout230, F249, (zer (zer (zer (zer zen)))), h249, hkey229, (show Ow _ _ ((List.replicate 64 0#8).length) _ _ _ from ho249)⟩
   ·
    replace hR := ifF hR hc177
    refine W.condF (congrArg Value.bool (decide_eq_false hc177)) ?_
    refine W.exit (thenR_exit (iterR_exit (blockR_here ?_)))
    have h250 := St.pickT (C := [_, _]) h174 [1] (by decide)
    simp only [pick, zfc, zfn, zgz, zgs, zca, zna] at h250
    exact ⟨out170, (hx173 _ hR).symm, aout170, pout170, cout170, Fout170, (zer zen), h250, hout170⟩
  ·
   rintro ev251 wl251 ⟨y_out172, hy251, aout172, pout172, cout172, Fout172, he251, h251, hout172⟩
   obtain ⟨ev251, rfl⟩ := he251.open
   subst hy251
   replace hR := hR0173
   refine k23 _ _ ?_; clear k23
   refine W.seq_k fun _ k252 => W.regionT [(0, true), (1, true)] (by kernel_rfl) ?_
   refine Plan.move_slice rfl rfl <| Plan.assign_slice rfl rfl <| Plan.nil (k252 _ _ ?_); clear k252
   refine W.ret (finR_ret ?_)
   subst r
   refine RetOk.mk (.tmp_slice rfl .nil) ?_
   exact ⟨aout172, pout172, (List.replicate 64 0#8).length, cout172, Fout172, rfl, h251, hout172⟩
 ·
  replace hR := ifF hR hc16
  refine W.condF (congrArg Value.bool (decide_eq_false hc16)) ?_
  refine W.skip ?_
  refine k6 _ _ ?_; clear k6
  refine W.seq_k fun _ k253 => W.seq_k fun _ k254 => ?_
  refine W.regionT [(0, true)] (by kernel_rfl) ?_
  refine Plan.assign_int rfl rfl <| Plan.nil (k254 _ _ ?_); clear k254
  obtain ⟨out399, hI400, hR0400⟩ := hR
  refine W.cutN (fun e w => ∃ y_out399 : List Byte, out399 = y_out399 ∧ ∃ aout399 : Option Addr, ∃ pout399 : Option Nat, ∃ cout399 : Nat, ∃ Fout399 : Nat → Byte, EnvHas e [(5, .slice aout399 ((List.replicate 64 0#8).length) cout399)] ∧ St B w0 (⟨pout399, 0, cout399, fun q => VU .u8 (Fout399 q), true⟩ :: L) w ∧ Ow aout399 pout399 ((List.replicate 64 0#8).length) cout399 Fout399 y_out399) ?_ ?_
  ·
   refine W.block ?_
   refine W.iter hI400 (fun (s400 : ((List Byte) × Nat)) e w => ∃ aout397 : Option Addr, ∃ pout397 : Option Nat, ∃ cout397 : Nat, ∃ Fout397 : Nat → Byte, EnvHas e [(0, .slice akey1 key1.length ckey1), (1, .int .i64 x_2), (5, .slice aout397 ((List.replicate 64 0#8).length) cout397), (7, VN s400.2)] ∧ St B w0 (⟨pout397, 0, cout397, fun q => VU .u8 (Fout397 q), true⟩ :: L) w ∧ Ow aout397 pout397 ((List.replicate 64 0#8).length) cout397 Fout397 s400.1) ⟨some ⟨b5, 0, none⟩, some b5, 64, (fun _ => 0#8), (zer (zer (zer (zer zen)))), h5, ho5⟩ ?_
   rintro ⟨out397, i_398⟩ o400 hR hx400 ev401 wl401 ⟨aout397, pout397, cout397, Fout397, he401, h401, hout397⟩
   obtain ⟨ev401, rfl⟩ := he401.open
   unfold letheref03_turned_l2 at hR
   refine W.seq_k fun _ k402 => W.seq_k fun _ k403 => ?_
   refine W.regionT [(0, true), (1, true)] (by kernel_rfl) ?_
   refine Plan.move_int rfl rfl <| Plan.cmpP (a := (((i_398 : Nat) : Int) : Int)) (b := (64 : Int)) (p := i_398 < 64) rfl rfl rfl rfl icmp_ltN <| Plan.nil (k403 _ _ ?_); clear k403
   by_cases hc404 : i_398 < 64
   ·
    replace hR := ifT hR hc404
    refine W.condT (congrArg Value.bool (decide_eq_true hc404)) ?_
    refine W.skip ?_
    refine k402 _ _ ?_; clear k402
    refine W.seq_k fun _ k405 => ?_
    refine W.block ?_
    refine W.seq_k fun _ k406 => W.regionT [(0, true)] (by kernel_rfl) ?_
    refine Plan.assign_int rfl rfl <| Plan.nil (k406 _ _ ?_); clear k406
    refine W.seq_k fun _ k407 => ?_
    obtain ⟨out412, k413, hX414, hR0414⟩ := hR
    refine W.cutN (fun e w => ∃ y_out412 : List Byte, ∃ y_k413 : Nat, (out412 = y_out412 ∧ k413 = y_k413) ∧ ∃ aout412 : Option Addr, ∃ pout412 : Option Nat, ∃ cout412 : Nat, ∃ Fout412 : Nat → Byte, EnvHas e [(0, .slice akey1 key1.length ckey1), (1, .int .i64 x_2), (5, .slice aout412 ((List.replicate 64 0#8).length) cout412), (7, VN i_398), (8, VN y_k413)] ∧ St B w0 (⟨pout412, 0, cout412, fun q => VU .u8 (Fout412 q), true⟩ :: L) w ∧ Ow aout412 pout412 ((List.replicate 64 0#8).length) cout412 Fout412 y_out412) ?_ ?_
    ·
     replace hR := hX414
     refine W.seq_k fun _ k415 => W.regionT [(0, true), (1, true), (2, true), (3, true)] (by kernel_rfl) ?_
     refine Plan.move_int rfl rfl <| Plan.move_slice rfl rfl <| Plan.len FRef03.isl24 rfl rfl <| Plan.cmpP (a := (((i_398 : Nat) : Int) : Int)) (b := (((key1.length : Nat) : Int) : Int)) (p := i_398 < key1.length) rfl rfl rfl rfl icmp_ltN <| Plan.nil (k415 _ _ ?_); clear k415
     by_cases hc416 : i_398 < key1.length
     ·
      replace hR := ifT hR hc416
      refine W.condT (congrArg Value.bool (decide_eq_true hc416)) ?_
      refine W.regionT [(0, true), (1, true), (2, true), (3, true), (4, true), (5, true)] (by kernel_rfl) ?_
      refine Plan.move_slice rfl rfl <| Plan.move_int rfl rfl ?_
      obtain ⟨hc417, hR⟩ := hR
      refine Plan.idxVS (j := i_398) h401 (hkey1.app [_]) FRef03.sl24 rfl rfl rfl hc417 ?_
      refine Plan.loadV (j := i_398) h401 (hkey1.app [_]) rfl rfl hc417 FRef03.sc5 fun r418 hr418 => ?_
      refine Plan.convN (a := (lit key1 i_398).toNat) FRef03.u3 FRef03.some5 rfl rfl (Nat.lt_of_lt_of_le (lit key1 i_398).isLt (by decide)) <| Plan.assign_int rfl rfl <| Plan.nil ?_
      exact ⟨out397, (lit key1 i_398).toNat, hR, aout397, pout397, cout397, Fout397, (zer (zer (zer (zer (zer zen))))), h401, hout397⟩
     ·
      replace hR := ifF hR hc416
      refine W.condF (congrArg Value.bool (decide_eq_false hc416)) ?_
      refine W.skip ?_
      exact ⟨out397, 0, hR, aout397, pout397, cout397, Fout397, (zer (zer (zer (zer (zer zen))))), h401, hout397⟩
    ·
     rintro ev419 wl419 ⟨y_out412, y_k413, ⟨hy419_0, hy419_1⟩, aout412, pout412, cout412, Fout412, he419, h419, hout412⟩
     subst hy419_0
     subst hy419_1
     obtain ⟨ev419, rfl⟩ := he419.open
     replace hR := hR0414
     refine k407 _ _ ?_; clear k407
     refine W.seq_k fun _ k420 => W.regionT [(0, true)] (by kernel_rfl) ?_
     refine Plan.assign_int rfl rfl <| Plan.nil (k420 _ _ ?_); clear k420
     refine W.seq_k fun _ k421 => W.seq_k fun _ k422 => ?_
     refine W.regionT [(0, true)] (by kernel_rfl) ?_
     refine Plan.assign_int rfl rfl <| Plan.nil (k422 _ _ ?_); clear k422
     obtain ⟨out452, n_453, hI454, hR0454⟩ := hR
     refine W.cutN (fun e w => ∃ y_out452 : List Byte, ∃ y_n_453 : Nat, (out452, n_453) = (y_out452, y_n_453) ∧ ∃ aout452 : Option Addr, ∃ pout452 : Option Nat, ∃ cout452 : Nat, ∃ Fout452 : Nat → Byte, EnvHas e [(0, .slice akey1 key1.length ckey1), (1, .int .i64 x_2), (5, .slice aout452 ((List.replicate 64 0#8).length) cout452), (7, VN i_398), (9, VN y_n_453)] ∧ St B w0 (⟨pout452, 0, cout452, fun q => VU .u8 (Fout452 q), true⟩ :: L) w ∧ Ow aout452 pout452 ((List.replicate 64 0#8).length) cout452 Fout452 y_out452) ?_ ?_
     ·
      refine W.block ?_
      refine W.iter hI454 (fun (s454 : ((List Byte) × Nat × Nat)) e w => ∃ aout449 : Option Addr, ∃ pout449 : Option Nat, ∃ cout449 : Nat, ∃ Fout449 : Nat → Byte, EnvHas e [(0, .slice akey1 key1.length ckey1), (1, .int .i64 x_2), (5, .slice aout449 ((List.replicate 64 0#8).length) cout449), (7, VN i_398), (8, VN k413), (9, VN s454.2.1), (10, VN s454.2.2)] ∧ St B w0 (⟨pout449, 0, cout449, fun q => VU .u8 (Fout449 q), true⟩ :: L) w ∧ Ow aout449 pout449 ((List.replicate 64 0#8).length) cout449 Fout449 s454.1) ⟨aout412, pout412, cout412, Fout412, (zer (zer (zer (zer (zer (zer (zer zen))))))), h419, hout412⟩ ?_
      rintro ⟨out449, n_450, bit451⟩ o454 hR hx454 ev455 wl455 ⟨aout449, pout449, cout449, Fout449, he455, h455, hout449⟩
      obtain ⟨ev455, rfl⟩ := he455.open
      unfold letheref03_turned_l3 at hR
      refine W.seq_k fun _ k456 => W.seq_k fun _ k457 => ?_
      refine W.regionT [(0, true), (1, true)] (by kernel_rfl) ?_
      refine Plan.move_int rfl rfl <| Plan.cmpP (a := (((bit451 : Nat) : Int) : Int)) (b := (256 : Int)) (p := bit451 < 256) rfl rfl rfl rfl icmp_ltN <| Plan.nil (k457 _ _ ?_); clear k457
      by_cases hc458 : bit451 < 256
      ·
       replace hR := ifT hR hc458
       refine W.condT (congrArg Value.bool (decide_eq_true hc458)) ?_
       refine W.skip ?_
       refine k456 _ _ ?_; clear k456
       refine W.seq_k fun _ k459 => ?_
       refine W.block ?_
       refine W.seq_k fun _ k460 => ?_
       refine W.regionD FRef03.mixed [(0, true), (1, true), (2, true), (3, true), (4, true), (5, true), (6, true), (7, true), (8, true)] (by kernel_rfl) ?_
       have h461 := h455.drew
       refine Plan.move_int rfl rfl <| Plan.move_int rfl rfl ?_
       obtain ⟨hc462, hR⟩ := hR
       obtain ⟨hc463, hR⟩ := hR
       refine Plan.quoN (a := k413) (b := bit451) rfl rfl rfl (by omega) <| Plan.remN (a := (k413 / bit451)) (b := 2) rfl rfl rfl (by omega) <| Plan.move_int rfl rfl <| Plan.move_int rfl rfl ?_
       obtain ⟨hc464, hR⟩ := hR
       obtain ⟨hc465, hR⟩ := hR
       refine Plan.quoIw (a := x_2) (b := ((bit451 : Nat) : Int)) rfl rfl rfl hc464 hc465 ?_
       have hb466 := tmod_bd (x_2.tdiv ((bit451 : Nat) : Int)) (c := 2) (by decide)
       refine Plan.remI (a := (x_2.tdiv ((bit451 : Nat) : Int))) (b := 2) rfl rfl rfl (by omega) <| Plan.cmpP (a := (((((k413 / bit451) % 2) : Nat) : Int) : Int)) (b := (((x_2.tdiv ((bit451 : Nat) : Int)).tmod 2) : Int)) (p := ((((k413 / bit451) % 2) : Nat) : Int) ≠ ((x_2.tdiv ((bit451 : Nat) : Int)).tmod 2)) rfl rfl rfl rfl icmp_ne <| Plan.nil (k460 _ _ ?_); clear k460
       by_cases hc467 : ((((k413 / bit451) % 2) : Nat) : Int) ≠ ((x_2.tdiv ((bit451 : Nat) : Int)).tmod 2)
       ·
        replace hR := ifT hR hc467
        refine W.condT (congrArg Value.bool (decide_eq_true hc467)) ?_
        refine W.regionT [(0, true), (1, true), (2, true), (3, true)] (by kernel_rfl) ?_
        refine Plan.move_int rfl rfl <| Plan.move_int rfl rfl ?_
        obtain ⟨hc468, hR⟩ := hR
        refine Plan.addN (a := n_450) (b := bit451) rfl rfl rfl (by omega) <| Plan.assign_int rfl rfl <| Plan.nil ?_
        refine blockR_norm ?_
        refine k459 _ _ ?_; clear k459
        refine W.regionT [(0, true), (1, true), (2, true)] (by kernel_rfl) ?_
        refine Plan.move_int rfl rfl <| Plan.mulN (a := bit451) (b := 2) rfl rfl rfl (by omega) <| Plan.assign_int rfl rfl <| Plan.nil ?_
        exact iterR_norm ⟨_, hR, aout449, pout449, cout449, Fout449, (zer (zer (zer (zer (zer (zer (zer zen))))))), h461, hout449⟩
       ·
        replace hR := ifF hR hc467
        refine W.condF (congrArg Value.bool (decide_eq_false hc467)) ?_
        refine W.skip ?_
        refine blockR_norm ?_
        refine k459 _ _ ?_; clear k459
        refine W.regionT [(0, true), (1, true), (2, true)] (by kernel_rfl) ?_
        refine Plan.move_int rfl rfl <| Plan.mulN (a := bit451) (b := 2) rfl rfl rfl (by omega) <| Plan.assign_int rfl rfl <| Plan.nil ?_
        exact iterR_norm ⟨_, hR, aout449, pout449, cout449, Fout449, (zer (zer (zer (zer (zer (zer (zer zen))))))), h461, hout449⟩
      ·
       replace hR := ifF hR hc458
       refine W.condF (congrArg Value.bool (decide_eq_false hc458)) ?_
       refine W.exit (thenR_exit (iterR_exit (blockR_here ?_)))
       exact ⟨out449, n_450, (hx454 _ hR).symm, aout449, pout449, cout449, Fout449, (zer (zer (zer (zer (zer zen))))), h455, hout449⟩
     ·
      rintro ev469 wl469 ⟨y_out452, y_n_453, hy469, aout452, pout452, cout452, Fout452, he469, h469, hout452⟩
      obtain ⟨ev469, rfl⟩ := he469.open
      cases hy469
      replace hR := hR0454
      refine k421 _ _ ?_; clear k421
      refine W.regionT [(0, true), (1, true), (2, true), (3, true), (4, true), (5, false)] (by kernel_rfl) ?_
      refine Plan.move_slice rfl rfl <| Plan.move_int rfl rfl <| Plan.move_int rfl rfl <| Plan.convNU .u8 (a := n_453) FRef03.u5 FRef03.some3 rfl rfl ?_
      obtain ⟨hc470, hR⟩ := hR
      refine Plan.idxVS (j := i_398) h469 (hout452.bx 0 rfl) FRef03.sl24 rfl rfl rfl hc470 ?_
      refine Plan.storeO (j := i_398) (Y := (BitVec.ofNat 8 n_453)) h469 0 hout452 rfl rfl rfl rfl hc470 FRef03.sz5 rfl fun w471 F471 ho471 h471 => ?_
      simp only [zca, zna, zsz, zss] at h471
      have e471 : (out452.set i_398 (BitVec.ofNat 8 n_453)).length = out452.length := List.length_set
      refine Plan.nil ?_
      refine blockR_norm ?_
      refine k405 _ _ ?_; clear k405
      refine W.regionT [(0, true), (1, true), (2, true)] (by kernel_rfl) ?_
      refine Plan.move_int rfl rfl <| Plan.addN (a := i_398) (b := 1) rfl rfl rfl (by omega) <| Plan.assign_int rfl rfl <| Plan.nil ?_
      exact iterR_norm ⟨_, hR, aout452, pout452, cout452, F471, (zer (zer (zer (zer zen)))), h471, (show Ow _ _ ((List.replicate 64 0#8).length) _ _ _ from ho471)⟩
   ·
    replace hR := ifF hR hc404
    refine W.condF (congrArg Value.bool (decide_eq_false hc404)) ?_
    refine W.exit (thenR_exit (iterR_exit (blockR_here ?_)))
    exact ⟨out397, (hx400 _ hR).symm, aout397, pout397, cout397, Fout397, (zer zen), h401, hout397⟩
  ·
   rintro ev472 wl472 ⟨y_out399, hy472, aout399, pout399, cout399, Fout399, he472, h472, hout399⟩
   obtain ⟨ev472, rfl⟩ := he472.open
   subst hy472
   replace hR := hR0400
   refine k253 _ _ ?_; clear k253
   refine W.seq_k fun _ k473 => W.regionT [(0, true), (1, true)] (by kernel_rfl) ?_
   refine Plan.move_slice rfl rfl <| Plan.assign_slice rfl rfl <| Plan.nil (k473 _ _ ?_); clear k473
   refine W.ret (finR_ret ?_)
   subst r
   refine RetOk.mk (.tmp_slice rfl .nil) ?_
   exact ⟨aout399, pout399, (List.replicate 64 0#8).length, cout399, Fout399, rfl, h472, hout399⟩
theorem letheref03_Joined_ok {B : Nat} {w0 w : World} {L : List Rg} {parts1 : List (List Byte)} {aparts1 : Option Addr} {nparts1 cparts1 iparts1 : Nat} (hparts1 : Bss L iparts1 aparts1 nparts1 cparts1 parts1) {r : (List Byte)} (hR : letheref03_Joined parts1 r) (HST : St B w0 (L) w) :
  Calls Tryd.prog 47 #[.slice aparts1 nparts1 cparts1] w fun e w' => ∃ ay0 : Option Addr, ∃ py0 : Option Nat, ∃ ny0 : Nat, ∃ cy0 : Nat, ∃ Fy0 : Nat → Byte, e = .returned (.slice ay0 ny0 cy0) ∧ St B w0 (⟨py0, 0, cy0, fun q => VU .u8 (Fy0 q), true⟩ :: L) w' ∧ Ow ay0 py0 ny0 cy0 Fy0 r := by
 refine W.enter 18 Tryd.func47 rfl rfl rfl ?_
 unfold letheref03_Joined at hR
 have eparts1 := hparts1.hl; subst eparts1
 refine W.seq_k fun _ k2 => W.regionT [(0, true)] (by kernel_rfl) ?_
 refine Plan.assign_slice rfl rfl <| Plan.nil (k2 _ _ ?_); clear k2
 refine W.seq_k fun _ k3 => W.regionT [(0, true)] (by kernel_rfl) ?_
 refine Plan.assign_slice rfl rfl <| Plan.nil (k3 _ _ ?_); clear k3
 refine W.seq_k fun _ k4 => W.seq_k fun _ k5 => ?_
 refine W.regionT [(0, true)] (by kernel_rfl) ?_
 refine Plan.assign_int rfl rfl <| Plan.nil (k5 _ _ ?_); clear k5
 have h32 := HST.nilR
 obtain ⟨out30, hI31, hR031⟩ := hR
 refine W.cutN (fun e w => ∃ y_out30 : List Byte, out30 = y_out30 ∧ ∃ aout30 : Option Addr, ∃ pout30 : Option Nat, ∃ cout30 : Nat, ∃ Fout30 : Nat → Byte, EnvHas e [(3, .slice aout30 y_out30.length cout30)] ∧ St B w0 (⟨pout30, 0, cout30, fun q => VU .u8 (Fout30 q), true⟩ :: L) w ∧ Ow aout30 pout30 y_out30.length cout30 Fout30 y_out30) ?_ ?_
 ·
  refine W.block ?_
  refine W.iter hI31 (fun (s31 : ((List Byte) × Nat)) e w => ∃ aout27 : Option Addr, ∃ pout27 : Option Nat, ∃ cout27 : Nat, ∃ Fout27 : Nat → Byte, EnvHas e [(0, .slice aparts1 parts1.length cparts1), (3, .slice aout27 s31.1.length cout27), (4, VN s31.2)] ∧ St B w0 (⟨pout27, 0, cout27, fun q => VU .u8 (Fout27 q), true⟩ :: L) w ∧ Ow aout27 pout27 s31.1.length cout27 Fout27 s31.1) ⟨none, none, 0, (fun _ => 0#8), (zer (zer (zer zen))), h32, Ow.nil⟩ ?_
  rintro ⟨out27, i_29⟩ o31 hR hx31 ev33 wl33 ⟨aout27, pout27, cout27, Fout27, he33, h33, hout27⟩
  obtain ⟨ev33, rfl⟩ := he33.open
  unfold letheref03_Joined_l0 at hR
  refine W.seq_k fun _ k34 => W.seq_k fun _ k35 => ?_
  refine W.regionT [(0, true), (1, true), (2, true), (3, true)] (by kernel_rfl) ?_
  refine Plan.move_int rfl rfl <| Plan.move_slice rfl rfl <| Plan.len FRef03.isl40 rfl rfl <| Plan.cmpP (a := (((i_29 : Nat) : Int) : Int)) (b := (((parts1.length : Nat) : Int) : Int)) (p := i_29 < parts1.length) rfl rfl rfl rfl icmp_ltN <| Plan.nil (k35 _ _ ?_); clear k35
  by_cases hc36 : i_29 < parts1.length
  ·
   replace hR := ifT hR hc36
   refine W.condT (congrArg Value.bool (decide_eq_true hc36)) ?_
   refine W.skip ?_
   refine k34 _ _ ?_; clear k34
   refine W.seq_k fun _ k37 => ?_
   refine W.block ?_
   refine W.regionT [(0, true), (1, true), (2, true), (3, true), (4, true), (5, false), (6, true)] (by kernel_rfl) ?_
   refine Plan.move_slice rfl rfl <| Plan.move_slice rfl rfl <| Plan.move_int rfl rfl ?_
   obtain ⟨hc38, hR⟩ := hR
   refine Plan.idxBss (j := i_29) hparts1 FRef03.sl40 rfl rfl rfl hc38 ?_
   refine Plan.loadBss (D := [_]) (j := i_29) h33 hparts1 rfl rfl hc38 FRef03.sc24 fun r39 i39 a39 c39 hr39 hv39 => ?_
   obtain ⟨hc41, hR⟩ := hR
   refine Plan.appendO (X := out27) (Y := (parts1.getD i_29 [])) h33 0 hout27 FRef03.el24 FRef03.sl24 rfl rfl rfl rfl (hv39.app [_]) hc41 (fun _ => EffO.wait rfl) fun a40 pb40 cap40 F40 w40 ho40 h40 => ?_
   simp only [zca, zna, zsz, zss] at h40
   refine Plan.assign_slice rfl rfl <| Plan.nil ?_
   refine blockR_norm ?_
   refine k37 _ _ ?_; clear k37
   refine W.regionT [(0, true), (1, true), (2, true)] (by kernel_rfl) ?_
   refine Plan.move_int rfl rfl ?_
   obtain ⟨hc42, hR⟩ := hR
   refine Plan.addN (a := i_29) (b := 1) rfl rfl rfl (by omega) <| Plan.assign_int rfl rfl <| Plan.nil ?_
   exact iterR_norm ⟨_, hR, a40, pb40, cap40, F40, (zer (zer (zer zen))), h40, ho40⟩
  ·
   replace hR := ifF hR hc36
   refine W.condF (congrArg Value.bool (decide_eq_false hc36)) ?_
   refine W.exit (thenR_exit (iterR_exit (blockR_here ?_)))
   exact ⟨out27, (hx31 _ hR).symm, aout27, pout27, cout27, Fout27, (zer zen), h33, hout27⟩
 ·
  rintro ev43 wl43 ⟨y_out30, hy43, aout30, pout30, cout30, Fout30, he43, h43, hout30⟩
  obtain ⟨ev43, rfl⟩ := he43.open
  subst hy43
  replace hR := hR031
  refine k4 _ _ ?_; clear k4
  refine W.seq_k fun _ k44 => W.regionT [(0, true), (1, true)] (by kernel_rfl) ?_
  refine Plan.move_slice rfl rfl <| Plan.assign_slice rfl rfl <| Plan.nil (k44 _ _ ?_); clear k44
  refine W.ret (finR_ret ?_)
  subst r
  refine RetOk.mk (.tmp_slice rfl .nil) ?_
  exact ⟨aout30, pout30, out30.length, cout30, Fout30, rfl, h43, hout30⟩
theorem letheref03_Mac_ok {B : Nat} {w0 w : World} {L : List Rg} {iG2 : Nat} (hG2 : L[iG2]? = some ⟨some 2, 0, 8, fun q => VU .u64 (H64 q), false⟩) {iG3 : Nat} (hG3 : L[iG3]? = some ⟨some 3, 0, 64, fun q => VU .u64 (K64 q), false⟩) {key1 : List Byte} {akey1 : Option Addr} {nkey1 ckey1 ikey1 : Nat} (hkey1 : Bx L ikey1 akey1 nkey1 ckey1 key1) {text2 : List Byte} {atext2 : Option Addr} {ntext2 ctext2 itext2 : Nat} (htext2 : Bx L itext2 atext2 ntext2 ctext2 text2) {r : (Nat → BitVec 8)} (hR : letheref03_Mac key1 text2 r) (HST : St B w0 (L) w) :
  Calls Tryd.prog 59 #[.slice akey1 nkey1 ckey1, .slice atext2 ntext2 ctext2] w fun e w' => e = .returned (AG [(32, fun q => VU .u8 (r q))]) ∧ St B w0 (L) w' := by
 refine W.enter 18 Tryd.func59 rfl rfl rfl ?_
 unfold letheref03_Mac at hR
 have ekey1 := hkey1.hl; subst ekey1
 have etext2 := htext2.hl; subst etext2
 refine W.seq_k fun _ k3 => W.regionT [(0, false)] (by kernel_rfl) ?_
 refine Plan.alloc HST rfl FRef03.z22 PIn.nil fun b4 w4 hb4 h4 => ?_
 simp only [rngs, Nat.zero_add, Nat.reduceAdd, zca, zna] at h4
 refine Plan.nil (k3 _ _ ?_); clear k3
 refine W.seq_k fun _ k5 => W.regionT [(0, true), (1, false), (2, true), (3, false), (4, false), (5, false), (6, false), (7, false)] (by kernel_rfl) ?_
 refine Plan.move_slice rfl rfl ?_
 obtain ⟨x_7, hr6, hR⟩ := hR
 refine Plan.call (vs := [.slice akey1 key1.length ckey1, VN 54]) rfl FRef03.call66 rfl (letheref03_turned_ok (iG2 := iG2 + 1) hG2 (iG3 := iG3 + 1) hG3 (hkey1.app [_]) hr6 h4) ?_
 rintro _ w13 ⟨ay0_8, py0_9, ny0_10, cy0_11, Fy0_12, rfl, h13, hf13_0⟩
 obtain rfl := hf13_0.hl
 refine ⟨_, rfl, .inl ⟨PIn.keep PIn.nil h13, ?_⟩⟩
 refine Plan.move_slice rfl rfl ?_
 refine Plan.buildSlice h13 (ps := [(2, fun i => .slice ((fun i => ([ay0_8, atext2] : List (Option Addr)).getD i none) i) ((fun i => ([x_7.length, text2.length] : List Nat).getD i 0) i) ((fun i => ([cy0_11, ctext2] : List Nat).getD i 0) i))]) FRef03.slu40 FRef03.sz24 FRef03.zv24 (by decide) (by decide) rfl rfl rfl (EffO.keep PIn.nil) fun b15 w15 hb15 h15 => ?_
 simp only [rngs, List.cons_append, List.nil_append] at h15
 obtain ⟨x_17, hr16, hR⟩ := hR
 refine Plan.call (vs := [.slice (some ⟨b15, 0, none⟩) 2 2]) rfl FRef03.call47 rfl (letheref03_Joined_ok (by exact (Bss.of 0 rfl rfl (fun i hi => match i, hi with | 0, _ => ⟨_, (hf13_0.bx 1 rfl)⟩ | 1, _ => ⟨_, (htext2.app [_, _, _])⟩ | k + 2, hk => absurd hk (by omega)))) hr16 h15) ?_
 rintro _ w23 ⟨ay0_18, py0_19, ny0_20, cy0_21, Fy0_22, rfl, h23, hf23_0⟩
 obtain rfl := hf23_0.hl
 refine ⟨_, rfl, .inl ⟨PIn.keep PIn.nil h23, ?_⟩⟩
 obtain ⟨x_25, hr24, hR⟩ := hR
 refine Plan.call (vs := [.slice ay0_18 x_17.length cy0_21]) rfl FRef03.call65 rfl (letheref02_Sum_ok (iG2 := iG2 + 4) hG2 (iG3 := iG3 + 4) hG3 (by exact (hf23_0.bx 0 rfl)) hr24 h23) ?_
 rintro _ w26 ⟨rfl, h26⟩
 refine ⟨_, rfl, .inl ⟨PIn.keep PIn.nil h26, ?_⟩⟩
 refine Plan.alloc h26 rfl FRef03.z22 PIn.nil fun b27 w27 hb27 h27 => ?_
 simp only [rngs, Nat.zero_add, Nat.reduceAdd, zca, zna] at h27
 refine Plan.storeA (f' := fun q => VU .u8 (x_25 q)) h27 0 rfl rfl rfl rfl (fun _ _ => rfl) FRef03.sz22 rfl fun w28 h28 => ?_
 simp only [zca, zna, zsz, zss] at h28
 refine Plan.nil (k5 _ _ ?_); clear k5
 refine W.seq_k fun _ k29 => ?_
 refine W.regionD FRef03.mixed [(0, true), (2, true), (1, false), (3, false), (4, false), (5, false), (6, false)] (by kernel_rfl) ?_
 have h30 := h28.drew
 refine Plan.move_slice rfl rfl <| Plan.slArrO (lo := 0) (hi := 32) (m := 32) (c := 32) (o' := 0) FRef03.arr22 rfl rfl rfl rfl (by omega) (by omega) (by omega) (by omega) ?_
 obtain ⟨x_32, hr31, hR⟩ := hR
 refine Plan.call (vs := [.slice akey1 key1.length ckey1, VN 92]) rfl FRef03.call66 rfl (letheref03_turned_ok (iG2 := iG2 + 5) hG2 (iG3 := iG3 + 5) hG3 (hkey1.app [_, _, _, _, _]) hr31 h30) ?_
 rintro _ w38 ⟨ay0_33, py0_34, ny0_35, cy0_36, Fy0_37, rfl, h38, hf38_0⟩
 obtain rfl := hf38_0.hl
 refine ⟨_, rfl, .inl ⟨PIn.keep PIn.nil h38, ?_⟩⟩
 refine Plan.buildSlice h38 (ps := [(2, fun i => .slice ((fun i => ([ay0_33, some ⟨b27, 0, none⟩] : List (Option Addr)).getD i none) i) ((fun i => ([x_32.length, 32] : List Nat).getD i 0) i) ((fun i => ([cy0_36, 32] : List Nat).getD i 0) i))]) FRef03.slu40 FRef03.sz24 FRef03.zv24 (by decide) (by decide) rfl rfl rfl (EffO.keep PIn.nil) fun b40 w40 hb40 h40 => ?_
 simp only [rngs, List.cons_append, List.nil_append] at h40
 obtain ⟨x_42, hr41, hR⟩ := hR
 refine Plan.call (vs := [.slice (some ⟨b40, 0, none⟩) 2 2]) rfl FRef03.call47 rfl (letheref03_Joined_ok (by exact (Bss.of 0 rfl rfl (fun i hi => match i, hi with | 0, _ => ⟨_, (hf38_0.bx 1 rfl)⟩ | 1, _ => ⟨_, (Bx.arr0 (n := 32) (cc := 32) 2 rfl (by omega) (by omega))⟩ | k + 2, hk => absurd hk (by omega)))) hr41 h40) ?_
 rintro _ w48 ⟨ay0_43, py0_44, ny0_45, cy0_46, Fy0_47, rfl, h48, hf48_0⟩
 obtain rfl := hf48_0.hl
 refine ⟨_, rfl, .inl ⟨PIn.keep PIn.nil h48, ?_⟩⟩
 obtain ⟨x_50, hr49, hR⟩ := hR
 refine Plan.call (vs := [.slice ay0_43 x_42.length cy0_46]) rfl FRef03.call65 rfl (letheref02_Sum_ok (iG2 := iG2 + 8) hG2 (iG3 := iG3 + 8) hG3 (by exact (hf48_0.bx 0 rfl)) hr49 h48) ?_
 rintro _ w51 ⟨rfl, h51⟩
 refine ⟨_, rfl, .inl ⟨PIn.keep PIn.nil h51, ?_⟩⟩
 refine Plan.storeA (f' := fun q => VU .u8 (x_50 q)) h51 7 rfl rfl rfl rfl (fun _ _ => rfl) FRef03.sz22 rfl fun w52 h52 => ?_
 simp only [zca, zna, zsz, zss] at h52
 refine Plan.nil (k29 _ _ ?_); clear k29
 refine W.ret (finR_ret ?_)
 have h53 := St.pickT (C := [_, _, _, _, _, _, _, _]) h52 [] (by decide)
 simp only [pick, zfc, zfn, zgz, zgs, zca, zna] at h53
 subst r
 refine RetOk.mk (.agg h52 rfl (.cons 7 rfl .nil) FRef03.agg22 .nil) ?_
 exact ⟨rfl, h53⟩
theorem letheref03_Extract_ok {B : Nat} {w0 w : World} {L : List Rg} {iG2 : Nat} (hG2 : L[iG2]? = some ⟨some 2, 0, 8, fun q => VU .u64 (H64 q), false⟩) {iG3 : Nat} (hG3 : L[iG3]? = some ⟨some 3, 0, 64, fun q => VU .u64 (K64 q), false⟩) {salt1 : List Byte} {asalt1 : Option Addr} {nsalt1 csalt1 isalt1 : Nat} (hsalt1 : Bx L isalt1 asalt1 nsalt1 csalt1 salt1) {key2 : List Byte} {akey2 : Option Addr} {nkey2 ckey2 ikey2 : Nat} (hkey2 : Bx L ikey2 akey2 nkey2 ckey2 key2) {r : (Nat → BitVec 8)} (hR : letheref03_Extract salt1 key2 r) (HST : St B w0 (L) w) :
  Calls Tryd.prog 61 #[.slice asalt1 nsalt1 csalt1, .slice akey2 nkey2 ckey2] w fun e w' => e = .returned (AG [(32, fun q => VU .u8 (r q))]) ∧ St B w0 (L) w' := by
 refine W.enter 8 Tryd.func61 rfl rfl rfl ?_
 unfold letheref03_Extract at hR
 have esalt1 := hsalt1.hl; subst esalt1
 have ekey2 := hkey2.hl; subst ekey2
 refine W.seq_k fun _ k3 => W.regionT [(0, false)] (by kernel_rfl) ?_
 refine Plan.alloc HST rfl FRef03.z22 PIn.nil fun b4 w4 hb4 h4 => ?_
 simp only [rngs, Nat.zero_add, Nat.reduceAdd, zca, zna] at h4
 refine Plan.nil (k3 _ _ ?_); clear k3
 refine W.seq_k fun _ k5 => W.regionT [(0, true), (1, true), (2, false), (3, false)] (by kernel_rfl) ?_
 refine Plan.move_slice rfl rfl <| Plan.move_slice rfl rfl ?_
 obtain ⟨x_7, hr6, hR⟩ := hR
 refine Plan.call (vs := [.slice asalt1 salt1.length csalt1, .slice akey2 key2.length ckey2]) rfl FRef03.call59 rfl (letheref03_Mac_ok (iG2 := iG2 + 1) hG2 (iG3 := iG3 + 1) hG3 (hsalt1.app [_]) (hkey2.app [_]) hr6 h4) ?_
 rintro _ w8 ⟨rfl, h8⟩
 refine ⟨_, rfl, .inl ⟨PIn.keep PIn.nil h8, ?_⟩⟩
 refine Plan.storeA (f' := fun q => VU .u8 (x_7 q)) h8 0 rfl rfl rfl rfl (fun _ _ => rfl) FRef03.sz22 rfl fun w9 h9 => ?_
 simp only [zca, zna, zsz, zss] at h9
 refine Plan.nil (k5 _ _ ?_); clear k5
 refine W.ret (finR_ret ?_)
 have h10 := St.pickT (C := [_]) h9 [] (by decide)
 simp only [pick, zfc, zfn, zgz, zgs, zca, zna] at h10
 subst r
 refine RetOk.mk (.agg h9 rfl (.cons 0 rfl .nil) FRef03.agg22 .nil) ?_
 exact ⟨rfl, h10⟩
theorem letheref03_Expand_ok {B : Nat} {w0 w : World} {L : List Rg} {iG2 : Nat} (hG2 : L[iG2]? = some ⟨some 2, 0, 8, fun q => VU .u64 (H64 q), false⟩) {iG3 : Nat} (hG3 : L[iG3]? = some ⟨some 3, 0, 64, fun q => VU .u64 (K64 q), false⟩) {prk1 : List Byte} {aprk1 : Option Addr} {nprk1 cprk1 iprk1 : Nat} (hprk1 : Bx L iprk1 aprk1 nprk1 cprk1 prk1) {info2 : List Byte} {ainfo2 : Option Addr} {ninfo2 cinfo2 iinfo2 : Nat} (hinfo2 : Bx L iinfo2 ainfo2 ninfo2 cinfo2 info2) {n_3 : Int} {r : ((List Byte) × Nat) ⊕ ((List Byte) × Nat)} (hR : letheref03_Expand prk1 info2 n_3 r) (HST : St B w0 (L) w) :
  Calls Tryd.prog 62 #[.slice aprk1 nprk1 cprk1, .slice ainfo2 ninfo2 cinfo2, .int .i64 n_3] w fun e w' => match r with | .inl z => ∃ ay0 : Option Addr, ∃ py0 : Option Nat, ∃ ny0 : Nat, ∃ cy0 : Nat, ∃ Fy0 : Nat → Byte, e = .returned (.tuple #[.slice ay0 ny0 cy0, VN z.2]) ∧ St B w0 (⟨py0, 0, cy0, fun q => VU .u8 (Fy0 q), true⟩ :: L) w' ∧ Ow ay0 py0 ny0 cy0 Fy0 z.1 | .inr z => ∃ ry0 : Rg, ∃ ay0 : Option Addr, ∃ ny0 : Nat, ∃ cy0 : Nat, e = .returned (.tuple #[.slice ay0 ny0 cy0, VN z.2]) ∧ St B w0 (ry0 :: L) w' ∧ Bx (ry0 :: L) 0 ay0 ny0 cy0 z.1 := by
 refine W.enter 38 Tryd.func62 rfl rfl rfl ?_
 unfold letheref03_Expand at hR
 have eprk1 := hprk1.hl; subst eprk1
 have einfo2 := hinfo2.hl; subst einfo2
 refine W.seq_k fun _ k4 => W.regionT [(0, true), (1, true)] (by kernel_rfl) ?_
 refine Plan.assign_slice rfl rfl <| Plan.assign_int rfl rfl <| Plan.nil (k4 _ _ ?_); clear k4
 refine W.seq_k fun _ k5 => W.seq_k fun _ k6 => ?_
 refine W.regionT [(0, true), (1, true)] (by kernel_rfl) ?_
 refine Plan.move_int rfl rfl <| Plan.cmpP (a := (n_3 : Int)) (b := (0 : Int)) (p := n_3 < 0) rfl rfl rfl rfl icmp_lt <| Plan.nil (k6 _ _ ?_); clear k6
 by_cases hc7 : n_3 < 0
 ·
  replace hR := ifT hR hc7
  refine W.condT (congrArg Value.bool (decide_eq_true hc7)) ?_
  refine W.seq_k fun _ k8 => W.regionT [(0, true), (1, true)] (by kernel_rfl) ?_
  refine Plan.assign_slice rfl rfl <| Plan.assign_int rfl rfl <| Plan.nil (k8 _ _ ?_); clear k8
  refine W.ret (thenR_ret (finR_ret ?_))
  have h9 := HST.nilR
  subst r
  refine RetOk.mk (.tmp_slice rfl (.tmp_int rfl .nil)) ?_
  exact ⟨none, none, 0, 0, (fun _ => 0#8), rfl, h9, Ow.nil⟩
 ·
  replace hR := ifF hR hc7
  refine W.condF (congrArg Value.bool (decide_eq_false hc7)) ?_
  refine W.skip ?_
  refine k5 _ _ ?_; clear k5
  refine W.seq_k fun _ k10 => W.seq_k fun _ k11 => ?_
  refine W.regionT [(0, true), (1, true)] (by kernel_rfl) ?_
  refine Plan.move_int rfl rfl <| Plan.cmpP (a := (n_3 : Int)) (b := (8160 : Int)) (p := 8160 < n_3) rfl rfl rfl rfl icmp_gt <| Plan.nil (k11 _ _ ?_); clear k11
  by_cases hc12 : 8160 < n_3
  ·
   replace hR := ifT hR hc12
   refine W.condT (congrArg Value.bool (decide_eq_true hc12)) ?_
   refine W.seq_k fun _ k13 => W.regionT [(0, true), (1, true)] (by kernel_rfl) ?_
   refine Plan.assign_slice rfl rfl <| Plan.assign_int rfl rfl <| Plan.nil (k13 _ _ ?_); clear k13
   refine W.ret (thenR_ret (finR_ret ?_))
   have h14 := HST.nilR
   subst r
   refine RetOk.mk (.tmp_slice rfl (.tmp_int rfl .nil)) ?_
   exact ⟨none, none, 0, 0, (fun _ => 0#8), rfl, h14, Ow.nil⟩
  ·
   replace hR := ifF hR hc12
   refine W.condF (congrArg Value.bool (decide_eq_false hc12)) ?_
   refine W.skip ?_
   refine k10 _ _ ?_; clear k10
   refine W.seq_k fun _ k15 => W.regionT [(0, true)] (by kernel_rfl) ?_
   refine Plan.assign_slice rfl rfl <| Plan.nil (k15 _ _ ?_); clear k15
   refine W.seq_k fun _ k16 => W.regionT [(0, true)] (by kernel_rfl) ?_
   refine Plan.assign_slice rfl rfl <| Plan.nil (k16 _ _ ?_); clear k16
   refine W.seq_k fun _ k17 => W.seq_k fun _ k18 => ?_
   refine W.regionT [(0, true)] (by kernel_rfl) ?_
   refine Plan.assign_int rfl rfl <| Plan.nil (k18 _ _ ?_); clear k18
   have h80 := HST.nilR
   have h81 := h80.nilR
   obtain ⟨out78, hI79, hR079⟩ := hR
   refine W.cutN (fun e w => ∃ y_out78 : List Byte, out78 = y_out78 ∧ ∃ aout78 : Option Addr, ∃ pout78 : Option Nat, ∃ cout78 : Nat, ∃ Fout78 : Nat → Byte, EnvHas e [(2, .int .i64 n_3), (8, .slice aout78 y_out78.length cout78)] ∧ St B w0 (⟨pout78, 0, cout78, fun q => VU .u8 (Fout78 q), true⟩ :: L) w ∧ Ow aout78 pout78 y_out78.length cout78 Fout78 y_out78) ?_ ?_
   ·
    refine W.block ?_
    have h82 := St.pickT (C := [_, _]) h81 [1, 0] (by decide)
    simp only [pick, zfc, zfn, zgz, zgs, zca, zna] at h82
    refine W.iter hI79 (fun (s79 : ((List Byte) × (List Byte) × Nat)) e w => ∃ aout73 : Option Addr, ∃ pout73 : Option Nat, ∃ cout73 : Nat, ∃ Fout73 : Nat → Byte, ∃ at75 : Option Addr, ∃ pt75 : Option Nat, ∃ ct75 : Nat, ∃ Ft75 : Nat → Byte, EnvHas e [(0, .slice aprk1 prk1.length cprk1), (1, .slice ainfo2 info2.length cinfo2), (2, .int .i64 n_3), (8, .slice aout73 s79.1.length cout73), (9, .slice at75 s79.2.1.length ct75), (10, VN s79.2.2)] ∧ St B w0 (⟨pout73, 0, cout73, fun q => VU .u8 (Fout73 q), true⟩ :: ⟨pt75, 0, ct75, fun q => VU .u8 (Ft75 q), true⟩ :: L) w ∧ Ow aout73 pout73 s79.1.length cout73 Fout73 s79.1 ∧ Ow at75 pt75 s79.2.1.length ct75 Ft75 s79.2.1) ⟨none, none, 0, (fun _ => 0#8), none, none, 0, (fun _ => 0#8), (zer (zer (zer (zer (zer (zer zen)))))), h82, Ow.nil, Ow.nil⟩ ?_
    rintro ⟨out73, t75, i_77⟩ o79 hR hx79 ev83 wl83 ⟨aout73, pout73, cout73, Fout73, at75, pt75, ct75, Ft75, he83, h83, hout73, ht75⟩
    obtain ⟨ev83, rfl⟩ := he83.open
    unfold letheref03_Expand_l0 at hR
    refine W.seq_k fun _ k84 => W.seq_k fun _ k85 => ?_
    refine W.regionT [(0, true), (1, true), (2, true), (3, true)] (by kernel_rfl) ?_
    refine Plan.move_slice rfl rfl <| Plan.len FRef03.isl24 rfl rfl <| Plan.move_int rfl rfl <| Plan.cmpP (a := (((out73.length : Nat) : Int) : Int)) (b := (n_3 : Int)) (p := ((out73.length : Nat) : Int) < n_3) rfl rfl rfl rfl icmp_lt <| Plan.nil (k85 _ _ ?_); clear k85
    by_cases hc86 : ((out73.length : Nat) : Int) < n_3
    ·
     replace hR := ifT hR hc86
     refine W.condT (congrArg Value.bool (decide_eq_true hc86)) ?_
     refine W.skip ?_
     refine k84 _ _ ?_; clear k84
     refine W.seq_k fun _ k87 => ?_
     refine W.block ?_
     refine W.seq_k fun _ k88 => W.regionT [(0, true), (1, true), (2, true), (3, true), (4, true), (5, false), (6, false), (7, false), (8, false), (9, false), (10, false)] (by kernel_rfl) ?_
     refine Plan.move_slice rfl rfl <| Plan.move_slice rfl rfl <| Plan.move_slice rfl rfl <| Plan.move_int rfl rfl <| Plan.convNU .u8 (a := i_77) FRef03.u5 FRef03.some3 rfl rfl ?_
     refine Plan.buildSlice h83 (ps := [(1, fun q => VU .u8 (lit ([(BitVec.ofNat 8 i_77)] : List Byte) q))]) FRef03.slu24 FRef03.sz5 FRef03.zv5 (by decide) (by decide) rfl rfl rfl (EffO.keep PIn.nil) fun b89 w89 hb89 h89 => ?_
     simp only [rngs, List.cons_append, List.nil_append] at h89
     have ho89 : Ow (some ⟨b89, 0, none⟩) (some b89) ([(BitVec.ofNat 8 i_77)] : List Byte).length 1 (lit ([(BitVec.ofNat 8 i_77)] : List Byte)) ([(BitVec.ofNat 8 i_77)] : List Byte) := ⟨.inr ⟨b89, rfl, rfl⟩, Nat.le_refl _, rfl, fun q _ => rfl⟩
     refine Plan.buildSlice h89 (ps := [(3, fun i => .slice ((fun i => ([at75, ainfo2, some ⟨b89, 0, none⟩] : List (Option Addr)).getD i none) i) ((fun i => ([t75.length, info2.length, ([(BitVec.ofNat 8 i_77)] : List Byte).length] : List Nat).getD i 0) i) ((fun i => ([ct75, cinfo2, 1] : List Nat).getD i 0) i))]) FRef03.slu40 FRef03.sz24 FRef03.zv24 (by decide) (by decide) rfl rfl rfl (EffO.keep PIn.nil) fun b91 w91 hb91 h91 => ?_
     simp only [rngs, List.cons_append, List.nil_append] at h91
     obtain ⟨x_93, hr92, hR⟩ := hR
     refine Plan.call (vs := [.slice (some ⟨b91, 0, none⟩) 3 3]) rfl FRef03.call47 rfl (letheref03_Joined_ok (by exact (Bss.of 0 rfl rfl (fun i hi => match i, hi with | 0, _ => ⟨_, (ht75.bx 3 rfl)⟩ | 1, _ => ⟨_, (hinfo2.app [_, _, _, _])⟩ | 2, _ => ⟨_, (ho89.bx 1 rfl)⟩ | k + 3, hk => absurd hk (by omega)))) hr92 h91) ?_
     rintro _ w99 ⟨ay0_94, py0_95, ny0_96, cy0_97, Fy0_98, rfl, h99, hf99_0⟩
     obtain rfl := hf99_0.hl
     refine ⟨_, rfl, .inl ⟨PIn.keep PIn.nil h99, ?_⟩⟩
     obtain ⟨x_101, hr100, hR⟩ := hR
     refine Plan.call (vs := [.slice aprk1 prk1.length cprk1, .slice ay0_94 x_93.length cy0_97]) rfl FRef03.call59 rfl (letheref03_Mac_ok (iG2 := iG2 + 5) hG2 (iG3 := iG3 + 5) hG3 (hprk1.app [_, _, _, _, _]) (by exact (hf99_0.bx 0 rfl)) hr100 h99) ?_
     rintro _ w102 ⟨rfl, h102⟩
     refine ⟨_, rfl, .inl ⟨PIn.keep PIn.nil h102, ?_⟩⟩
     refine Plan.alloc h102 rfl FRef03.z22 PIn.nil fun b103 w103 hb103 h103 => ?_
     simp only [rngs, Nat.zero_add, Nat.reduceAdd, zca, zna] at h103
     refine Plan.storeA (f' := fun q => VU .u8 (x_101 q)) h103 0 rfl rfl rfl rfl (fun _ _ => rfl) FRef03.sz22 rfl fun w104 h104 => ?_
     simp only [zca, zna, zsz, zss] at h104
     refine Plan.nil (k88 _ _ ?_); clear k88
     refine W.seq_k fun _ k105 => W.regionT [(0, true), (1, true)] (by kernel_rfl) ?_
     refine Plan.slArrO (lo := 0) (hi := 32) (m := 32) (c := 32) (o' := 0) FRef03.arr22 rfl rfl rfl rfl (by omega) (by omega) (by omega) (by omega) <| Plan.assign_slice rfl rfl <| Plan.nil (k105 _ _ ?_); clear k105
     refine W.regionT [(0, true), (1, true), (2, false), (3, true)] (by kernel_rfl) ?_
     refine Plan.move_slice rfl rfl <| Plan.slArrO (lo := 0) (hi := 32) (m := 32) (c := 32) (o' := 0) FRef03.arr22 rfl rfl rfl rfl (by omega) (by omega) (by omega) (by omega) ?_
     obtain ⟨hc107, hR⟩ := hR
     refine Plan.appendO (X := out73) (Y := (dl 32 x_101)) h104 4 hout73 FRef03.el24 FRef03.sl24 rfl rfl rfl rfl (Bx.arr0 (n := 32) (cc := 32) 0 rfl (by omega) (by omega)) hc107 (fun _ => EffO.keep PIn.nil) fun a106 pb106 cap106 F106 w106 ho106 h106 => ?_
     simp only [zca, zna, zsz, zss] at h106
     refine Plan.assign_slice rfl rfl <| Plan.nil ?_
     refine blockR_norm ?_
     refine k87 _ _ ?_; clear k87
     refine W.regionT [(0, true), (1, true), (2, true)] (by kernel_rfl) ?_
     refine Plan.move_int rfl rfl ?_
     obtain ⟨hc108, hR⟩ := hR
     refine Plan.addN (a := i_77) (b := 1) rfl rfl rfl (by omega) <| Plan.assign_int rfl rfl <| Plan.nil ?_
     have h109 := St.pickT (C := [_, _, _, _, _, _]) h106 [4, 0] (by decide)
     simp only [pick, zfc, zfn, zgz, zgs, zca, zna] at h109
     exact iterR_norm ⟨_, hR, a106, pb106, cap106, F106, some ⟨b103, 0, none⟩, some b103, 32, x_101, (zer (zer (zer (zer (zer (zer zen)))))), h109, ho106, Ow.arr⟩
    ·
     replace hR := ifF hR hc86
     refine W.condF (congrArg Value.bool (decide_eq_false hc86)) ?_
     refine W.exit (thenR_exit (iterR_exit (blockR_here ?_)))
     have h110 := St.pickT (C := [_, _]) h83 [0] (by decide)
     simp only [pick, zfc, zfn, zgz, zgs, zca, zna] at h110
     exact ⟨out73, (hx79 _ hR).symm, aout73, pout73, cout73, Fout73, (zer (zer zen)), h110, hout73⟩
   ·
    rintro ev111 wl111 ⟨y_out78, hy111, aout78, pout78, cout78, Fout78, he111, h111, hout78⟩
    obtain ⟨ev111, rfl⟩ := he111.open
    subst hy111
    replace hR := hR079
    refine k17 _ _ ?_; clear k17
    refine W.seq_k fun _ k112 => W.regionT [(0, true), (1, true), (2, true), (3, true), (4, true)] (by kernel_rfl) ?_
    refine Plan.move_slice rfl rfl <| Plan.move_int rfl rfl ?_
    obtain ⟨hc113, hR⟩ := hR
    obtain ⟨hc114, hR⟩ := hR
    have hm115 := hout78.hc
    refine Plan.slSl (lo := 0) (hi := n_3.toNat) FRef03.sl24 rfl rfl rfl ⟨_, congrArg (Value.int .i64) (Int.toNat_of_nonneg hc113).symm⟩ (by omega) <| Plan.assign_slice rfl rfl <| Plan.assign_int rfl rfl <| Plan.nil (k112 _ _ ?_); clear k112
    refine W.ret (finR_ret ?_)
    subst r
    refine RetOk.mk (.tmp_slice rfl (.tmp_int rfl .nil)) ?_
    exact ⟨⟨pout78, 0, cout78, fun q => VU .u8 (Fout78 q), true⟩, (if cout78 = 0 then (aout78 : Option Addr) else (aout78 : Option Addr).map (·.add (0 * 1))), (n_3.toNat - 0), (cout78 - 0), rfl, h111, ((hout78.bx 0 rfl).seg (lo := 0) (hi := n_3.toNat) hc114)⟩
theorem letheref03_Derive_ok {B : Nat} {w0 w : World} {L : List Rg} {iG2 : Nat} (hG2 : L[iG2]? = some ⟨some 2, 0, 8, fun q => VU .u64 (H64 q), false⟩) {iG3 : Nat} (hG3 : L[iG3]? = some ⟨some 3, 0, 64, fun q => VU .u64 (K64 q), false⟩) {salt1 : List Byte} {asalt1 : Option Addr} {nsalt1 csalt1 isalt1 : Nat} (hsalt1 : Bx L isalt1 asalt1 nsalt1 csalt1 salt1) {key2 : List Byte} {akey2 : Option Addr} {nkey2 ckey2 ikey2 : Nat} (hkey2 : Bx L ikey2 akey2 nkey2 ckey2 key2) {info3 : List Byte} {ainfo3 : Option Addr} {ninfo3 cinfo3 iinfo3 : Nat} (hinfo3 : Bx L iinfo3 ainfo3 ninfo3 cinfo3 info3) {n_4 : Int} {r : ((List Byte) × Nat) ⊕ ((List Byte) × Nat)} (hR : letheref03_Derive salt1 key2 info3 n_4 r) (HST : St B w0 (L) w) :
  Calls Tryd.prog 55 #[.slice asalt1 nsalt1 csalt1, .slice akey2 nkey2 ckey2, .slice ainfo3 ninfo3 cinfo3, .int .i64 n_4] w fun e w' => match r with | .inl z => ∃ ay0 : Option Addr, ∃ py0 : Option Nat, ∃ ny0 : Nat, ∃ cy0 : Nat, ∃ Fy0 : Nat → Byte, e = .returned (.tuple #[.slice ay0 ny0 cy0, VN z.2]) ∧ St B w0 (⟨py0, 0, cy0, fun q => VU .u8 (Fy0 q), true⟩ :: L) w' ∧ Ow ay0 py0 ny0 cy0 Fy0 z.1 | .inr z => ∃ ry0 : Rg, ∃ ay0 : Option Addr, ∃ ny0 : Nat, ∃ cy0 : Nat, e = .returned (.tuple #[.slice ay0 ny0 cy0, VN z.2]) ∧ St B w0 (ry0 :: L) w' ∧ Bx (ry0 :: L) 0 ay0 ny0 cy0 z.1 := by
 refine W.enter 20 Tryd.func55 rfl rfl rfl ?_
 unfold letheref03_Derive at hR
 have esalt1 := hsalt1.hl; subst esalt1
 have ekey2 := hkey2.hl; subst ekey2
 have einfo3 := hinfo3.hl; subst einfo3
 refine W.seq_k fun _ k5 => W.regionT [(0, true), (1, true)] (by kernel_rfl) ?_
 refine Plan.assign_slice rfl rfl <| Plan.assign_int rfl rfl <| Plan.nil (k5 _ _ ?_); clear k5
 refine W.seq_k fun _ k6 => W.regionT [(0, true), (1, true), (2, false), (3, false), (4, false)] (by kernel_rfl) ?_
 refine Plan.move_slice rfl rfl <| Plan.move_slice rfl rfl ?_
 obtain ⟨x_8, hr7, hR⟩ := hR
 refine Plan.call (vs := [.slice asalt1 salt1.length csalt1, .slice akey2 key2.length ckey2]) rfl FRef03.call61 rfl (letheref03_Extract_ok (iG2 := iG2 + 0) hG2 (iG3 := iG3 + 0) hG3 hsalt1 hkey2 hr7 HST) ?_
 rintro _ w9 ⟨rfl, h9⟩
 refine ⟨_, rfl, .inl ⟨PIn.keep PIn.nil h9, ?_⟩⟩
 refine Plan.alloc h9 rfl FRef03.z22 PIn.nil fun b10 w10 hb10 h10 => ?_
 simp only [rngs, Nat.zero_add, Nat.reduceAdd, zca, zna] at h10
 refine Plan.storeA (f' := fun q => VU .u8 (x_8 q)) h10 0 rfl rfl rfl rfl (fun _ _ => rfl) FRef03.sz22 rfl fun w11 h11 => ?_
 simp only [zca, zna, zsz, zss] at h11
 refine Plan.nil (k6 _ _ ?_); clear k6
 refine W.seq_k fun _ k12 => W.regionT [(0, true), (1, true), (2, true), (3, false), (4, true), (5, true), (6, true), (7, true)] (by kernel_rfl) ?_
 refine Plan.slArrO (lo := 0) (hi := 32) (m := 32) (c := 32) (o' := 0) FRef03.arr22 rfl rfl rfl rfl (by omega) (by omega) (by omega) (by omega) <| Plan.move_slice rfl rfl <| Plan.move_int rfl rfl ?_
 rcases hR with ⟨x_14, x_15, hr13, hR⟩ | ⟨x_16, x_17, hr13, hR⟩
 ·
  refine Plan.call (vs := [.slice (some ⟨b10, 0, none⟩) 32 32, .slice ainfo3 info3.length cinfo3, .int .i64 n_4]) rfl FRef03.call62 rfl (letheref03_Expand_ok (iG2 := iG2 + 1) hG2 (iG3 := iG3 + 1) hG3 (by exact (Bx.arr0 (n := 32) (cc := 32) 0 rfl (by omega) (by omega))) (hinfo3.app [_]) hr13 h11) ?_
  rintro _ w23 ⟨ay0_18, py0_19, ny0_20, cy0_21, Fy0_22, rfl, h23, hf23_0⟩
  try dsimp only at hf23_0
  obtain rfl := hf23_0.hl
  refine ⟨_, rfl, .inl ⟨PIn.keep PIn.nil h23, ?_⟩⟩
  refine Plan.extract_slice rfl rfl rfl <| Plan.extract_int rfl rfl rfl <| Plan.assign_slice rfl rfl <| Plan.assign_int rfl rfl <| Plan.nil (k12 _ _ ?_); clear k12
  refine W.ret (finR_ret ?_)
  have h24 := St.pickT (C := [_, _]) h23 [0] (by decide)
  simp only [pick, zfc, zfn, zgz, zgs, zca, zna] at h24
  subst r
  refine RetOk.mk (.tmp_slice rfl (.tmp_int rfl .nil)) ?_
  exact ⟨ay0_18, py0_19, x_14.length, cy0_21, Fy0_22, rfl, h24, hf23_0⟩
 ·
  refine Plan.call (vs := [.slice (some ⟨b10, 0, none⟩) 32 32, .slice ainfo3 info3.length cinfo3, .int .i64 n_4]) rfl FRef03.call62 rfl (letheref03_Expand_ok (iG2 := iG2 + 1) hG2 (iG3 := iG3 + 1) hG3 (by exact (Bx.arr0 (n := 32) (cc := 32) 0 rfl (by omega) (by omega))) (hinfo3.app [_]) hr13 h11) ?_
  rintro _ w29 ⟨ry0_25, ay0_26, ny0_27, cy0_28, rfl, h29, hf29_0⟩
  try dsimp only at hf29_0
  obtain rfl := hf29_0.hl
  refine ⟨_, rfl, .inl ⟨PIn.keep PIn.nil h29, ?_⟩⟩
  refine Plan.extract_slice rfl rfl rfl <| Plan.extract_int rfl rfl rfl <| Plan.assign_slice rfl rfl <| Plan.assign_int rfl rfl <| Plan.nil (k12 _ _ ?_); clear k12
  refine W.ret (finR_ret ?_)
  have h30 := St.pickT (C := [_, _]) h29 [0] (by decide)
  simp only [pick, zfc, zfn, zgz, zgs, zca, zna] at h30
  subst r
  refine RetOk.mk (.tmp_slice rfl (.tmp_int rfl .nil)) ?_
  exact ⟨ry0_25, ay0_26, x_16.length, cy0_28, rfl, h30, (Bx.move (j := 0) hf29_0 rfl rfl)⟩
end Go.Proofs.YthjkmhdgenmnoaaDoor
