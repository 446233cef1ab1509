/-
 WALKS of the package's functions, printed by this session's own program (auto.py).
-/
import Derived.Test.YtjclppnbbpnfnaaDoorProg
import Derived.Test.YtjclppnbbpnfnaaDoorEb
import Derived.Test.YtjclppnbbpnfnaaDoorRBytes
import Derived.Test.YtjclppnbbpnfnaaDoorEls
import Derived.Test.YtjclppnbbpnfnaaDoorWBits
namespace Go.Proofs.YtjclppnbbpnfnaaDoor
set_option linter.unusedSimpArgs false
set_option linter.unusedVariables false
set_option linter.unusedSectionVars false
set_option maxRecDepth 8000
set_option maxHeartbeats 1000000
open Go Go.LW
theorem FBytes.mixed : Tryd.prog.follows .mixedOrders = true := by kernel_rfl
theorem FBytes.sz5 : szT Tryd.prog 5 1 = true := by kernel_rfl
theorem FBytes.u3 : Tryd.prog.underlying 3 = some (.int .i64) := by kernel_rfl
theorem FBytes.slu40 : Tryd.prog.underlying 40 = some (.slice 5) := by kernel_rfl
theorem FBytes.isl40 : ∃ el, Tryd.prog.underlying 40 = some (.slice el) := ⟨5, by kernel_rfl⟩
theorem FBytes.u91 : Tryd.prog.underlying 91 = some (.int .u64) := by kernel_rfl
theorem FBytes.some3 : (Tryd.prog.underlying 3).isSome = true := by kernel_rfl
theorem FBytes.call54 : callB Tryd.prog 54 = true := by kernel_rfl
theorem FBytes.some91 : (Tryd.prog.underlying 91).isSome = true := by kernel_rfl
theorem FBytes.sl40 : slB Tryd.prog 40 1 = true := by kernel_rfl
theorem bytes_Repeat_ok {B : Nat} {w0 w : World} {L : List Rg} {b1 : List Byte} {ab1 : Option Addr} {nb1 cb1 ib1 : Nat} (hb1 : Bx L ib1 ab1 nb1 cb1 b1) {count2 : Int} {r : (List Byte)} (hR : bytes_Repeat b1 count2 r) (HST : St B w0 (L) w) :
  Calls Tryd.prog 35 #[.slice ab1 nb1 cb1, .int .i64 count2] w fun e w' => ∃ ay0 : Option Addr, ∃ py0 : Option Nat, ∃ ny0 : Nat, ∃ cy0 : Nat, ∃ Fy0 : Nat → Byte, e = .returned (.slice ay0 ny0 cy0) ∧ St B w0 (⟨py0, 0, cy0, fun q => VU .u8 (Fy0 q), true⟩ :: L) w' ∧ Ow ay0 py0 ny0 cy0 Fy0 r := by
 refine W.enter 77 Tryd.func35 rfl rfl rfl ?_
 unfold bytes_Repeat at hR
 have eb1 := hb1.hl; subst eb1
 refine W.seq_k fun _ k3 => W.regionT [(0, true)] (by kernel_rfl) ?_
 refine Plan.assign_slice rfl rfl <| Plan.nil (k3 _ _ ?_); clear k3
 refine W.seq_k fun _ k4 => W.seq_k fun _ k5 => ?_
 refine W.regionT [(0, true), (1, true)] (by kernel_rfl) ?_
 refine Plan.move_int rfl rfl <| Plan.cmpP (a := (count2 : Int)) (b := (0 : Int)) (p := count2 = 0) rfl rfl rfl rfl icmp_eq <| Plan.nil (k5 _ _ ?_); clear k5
 by_cases hc6 : count2 = 0
 ·
  replace hR := ifT hR hc6
  refine W.condT (congrArg Value.bool (decide_eq_true hc6)) ?_
  refine W.seq_k fun _ k7 => W.regionT [(0, false), (1, true)] (by kernel_rfl) ?_
  refine Plan.buildE HST (fun q => VU .u8 ((fun _ => 0#8 : Nat → Byte) q)) FBytes.slu40 FBytes.sz5 rfl (EffO.keep PIn.nil) fun b8 w8 hb8 h8 => ?_
  refine Plan.assign_slice rfl rfl <| Plan.nil (k7 _ _ ?_); clear k7
  refine W.ret (thenR_ret (finR_ret ?_))
  subst r
  refine RetOk.mk (.tmp_slice rfl .nil) ?_
  exact ⟨some ⟨b8, 0, none⟩, some b8, 0, 0, (fun _ => 0#8), rfl, h8, Ow.empty⟩
 ·
  replace hR := ifF hR hc6
  refine W.condF (congrArg Value.bool (decide_eq_false hc6)) ?_
  refine W.skip ?_
  refine k4 _ _ ?_; clear k4
  refine W.seq_k fun _ k9 => W.seq_k fun _ k12 => ?_
  refine W.regionT [(0, true), (1, true)] (by kernel_rfl) ?_
  refine Plan.move_int rfl rfl <| Plan.cmpP (a := (count2 : Int)) (b := (0 : Int)) (p := count2 < 0) rfl rfl rfl rfl icmp_lt <| Plan.nil (k12 _ _ ?_); clear k12
  by_cases hc13 : count2 < 0
  ·
   replace hR := ifT hR hc13
   refine W.condT (congrArg Value.bool (decide_eq_true hc13)) ?_
   refine W.regionT [(0, false), (1, false)] (by kernel_rfl) ?_
   exact hR.elim
  ·
   replace hR := ifF hR hc13
   refine W.condF (congrArg Value.bool (decide_eq_false hc13)) ?_
   refine W.skip ?_
   refine k9 _ _ ?_; clear k9
   refine W.seq_k fun _ k14 => W.regionT [(0, true), (1, true), (2, true), (3, true), (4, true), (5, false), (6, true), (7, true), (8, true), (9, true), (10, true)] (by kernel_rfl) ?_
   refine Plan.move_slice rfl rfl <| Plan.len FBytes.isl40 rfl rfl <| Plan.convNU .u64 (a := b1.length) FBytes.u91 FBytes.some3 rfl rfl <| Plan.move_int rfl rfl <| Plan.convIU .u64 (a := count2) FBytes.u91 FBytes.some3 rfl rfl ?_
   obtain ⟨x_16, x_17, hr15, hR⟩ := hR
   refine Plan.call (vs := [VU .u64 (BitVec.ofNat 64 b1.length), VU .u64 (BitVec.ofInt 64 count2)]) rfl FBytes.call54 rfl (bits_Mul_ok  hr15 HST) ?_
   rintro _ w18 ⟨rfl, h18⟩
   refine ⟨_, rfl, .inl ⟨PIn.keep PIn.nil h18, ?_⟩⟩
   refine Plan.move_tuple rfl rfl <| Plan.extract_int rfl rfl rfl <| Plan.extract_int rfl rfl rfl <| Plan.assign_int rfl rfl <| Plan.assign_int rfl rfl <| Plan.nil (k14 _ _ ?_); clear k14
   refine W.seq_k fun _ k19 => W.seq_k fun _ k23 => ?_
   refine W.regionT [(0, true), (1, true), (2, true), (3, true), (4, true), (5, true)] (by kernel_rfl) ?_
   refine Plan.move_int rfl rfl ?_
   by_cases hc24 : (0#64).toNat < x_16.toNat
   ·
    replace hR := ifT hR hc24
    refine Plan.cmpV (a := (x_16.toNat : Int)) (b := ((0#64).toNat : Int)) (p := (0#64).toNat < x_16.toNat) (v := true) rfl rfl rfl rfl icmp_gtN (decide_eq_true hc24) <| Plan.move_bool rfl rfl <| Plan.passed rfl <| Plan.passed rfl <| Plan.pickTb rfl rfl rfl <| Plan.nil (k23 _ _ ?_); clear k23
    refine W.condT rfl ?_
    refine W.regionT [(0, false), (1, false)] (by kernel_rfl) ?_
    exact hR.elim
   ·
    replace hR := ifF hR hc24
    refine Plan.cmpV (a := (x_16.toNat : Int)) (b := ((0#64).toNat : Int)) (p := (0#64).toNat < x_16.toNat) (v := false) rfl rfl rfl rfl icmp_gtN (decide_eq_false hc24) <| Plan.move_bool rfl rfl <| Plan.move_int rfl rfl <| Plan.cmpP (a := (x_17.toNat : Int)) (b := ((9223372036854775807#64).toNat : Int)) (p := (9223372036854775807#64).toNat < x_17.toNat) rfl rfl rfl rfl icmp_gtN <| Plan.pickFb rfl rfl rfl <| Plan.nil (k23 _ _ ?_); clear k23
    by_cases hc25 : (9223372036854775807#64).toNat < x_17.toNat
    ·
     replace hR := ifT hR hc25
     refine W.condT (congrArg Value.bool (decide_eq_true hc25)) ?_
     refine W.regionT [(0, false), (1, false)] (by kernel_rfl) ?_
     exact hR.elim
    ·
     replace hR := ifF hR hc25
     refine W.condF (congrArg Value.bool (decide_eq_false hc25)) ?_
     refine W.skip ?_
     refine k19 _ _ ?_; clear k19
     refine W.seq_k fun _ k26 => W.regionT [(0, true), (1, true), (2, true)] (by kernel_rfl) ?_
     refine Plan.move_int rfl rfl ?_
     obtain ⟨hc27, hR⟩ := hR
     refine Plan.convN (a := x_17.toNat) FBytes.u3 FBytes.some91 rfl rfl hc27 <| Plan.assign_int rfl rfl <| Plan.nil (k26 _ _ ?_); clear k26
     refine W.seq_k fun _ k28 => W.seq_k fun _ k29 => ?_
     refine W.regionT [(0, true), (1, true), (2, true)] (by kernel_rfl) ?_
     refine Plan.move_slice rfl rfl <| Plan.len FBytes.isl40 rfl rfl <| Plan.cmpP (a := (((b1.length : Nat) : Int) : Int)) (b := (0 : Int)) (p := b1.length = 0) rfl rfl rfl rfl icmp_eqN <| Plan.nil (k29 _ _ ?_); clear k29
     by_cases hc30 : b1.length = 0
     ·
      replace hR := ifT hR hc30
      refine W.condT (congrArg Value.bool (decide_eq_true hc30)) ?_
      refine W.seq_k fun _ k31 => W.regionT [(0, false), (1, true)] (by kernel_rfl) ?_
      refine Plan.buildE h18 (fun q => VU .u8 ((fun _ => 0#8 : Nat → Byte) q)) FBytes.slu40 FBytes.sz5 rfl (EffO.keep PIn.nil) fun b32 w32 hb32 h32 => ?_
      refine Plan.assign_slice rfl rfl <| Plan.nil (k31 _ _ ?_); clear k31
      refine W.ret (thenR_ret (finR_ret ?_))
      subst r
      refine RetOk.mk (.tmp_slice rfl .nil) ?_
      exact ⟨some ⟨b32, 0, none⟩, some b32, 0, 0, (fun _ => 0#8), rfl, h32, Ow.empty⟩
     ·
      replace hR := ifF hR hc30
      refine W.condF (congrArg Value.bool (decide_eq_false hc30)) ?_
      refine W.skip ?_
      refine k28 _ _ ?_; clear k28
      refine W.seq_k fun _ k33 => W.regionT [(0, true), (1, true)] (by kernel_rfl) ?_
      refine Plan.move_int rfl rfl <| Plan.assign_int rfl rfl <| Plan.nil (k33 _ _ ?_); clear k33
      refine W.seq_k fun _ k34 => ?_
      obtain ⟨chunkMax42, hX43, hR043⟩ := hR
      refine W.cutN (fun e w => ∃ y_chunkMax42 : Nat, (chunkMax42 = y_chunkMax42) ∧ EnvHas e [(0, .slice ab1 b1.length cb1), (7, VN x_17.toNat), (8, VN y_chunkMax42)] ∧ St B w0 (L) w) ?_ ?_
      ·
       replace hR := hX43
       refine W.seq_k fun _ k44 => W.regionT [(0, true), (1, true)] (by kernel_rfl) ?_
       refine Plan.move_int rfl rfl <| Plan.cmpP (a := (((x_17.toNat : Nat) : Int) : Int)) (b := (8192 : Int)) (p := 8192 < x_17.toNat) rfl rfl rfl rfl icmp_gtN <| Plan.nil (k44 _ _ ?_); clear k44
       by_cases hc45 : 8192 < x_17.toNat
       ·
        replace hR := ifT hR hc45
        refine W.condT (congrArg Value.bool (decide_eq_true hc45)) ?_
        refine W.seq_k fun _ k46 => W.regionT [(0, true), (1, true), (2, true), (3, true), (4, true), (5, true), (6, true)] (by kernel_rfl) ?_
        refine Plan.move_slice rfl rfl <| Plan.len FBytes.isl40 rfl rfl ?_
        obtain ⟨hc47, hR⟩ := hR
        refine Plan.quoN (a := 8192) (b := b1.length) rfl rfl rfl (by omega) <| Plan.move_slice rfl rfl <| Plan.len FBytes.isl40 rfl rfl ?_
        obtain ⟨hc48, hR⟩ := hR
        refine Plan.mulN (a := (8192 / b1.length)) (b := b1.length) rfl rfl rfl (by omega) <| Plan.assign_int rfl rfl <| Plan.nil (k46 _ _ ?_); clear k46
        refine W.seq_k fun _ k49 => W.regionT [(0, true), (1, true)] (by kernel_rfl) ?_
        refine Plan.move_int rfl rfl <| Plan.cmpP (a := (((((8192 / b1.length) * b1.length) : Nat) : Int) : Int)) (b := (0 : Int)) (p := ((8192 / b1.length) * b1.length) = 0) rfl rfl rfl rfl icmp_eqN <| Plan.nil (k49 _ _ ?_); clear k49
        by_cases hc50 : ((8192 / b1.length) * b1.length) = 0
        ·
         replace hR := ifT hR hc50
         refine W.condT (congrArg Value.bool (decide_eq_true hc50)) ?_
         refine W.regionT [(0, true), (1, true), (2, true)] (by kernel_rfl) ?_
         refine Plan.move_slice rfl rfl <| Plan.len FBytes.isl40 rfl rfl <| Plan.assign_int rfl rfl <| Plan.nil ?_
         exact ⟨b1.length, hR, (zer (zer (zer zen))), h18⟩
        ·
         replace hR := ifF hR hc50
         refine W.condF (congrArg Value.bool (decide_eq_false hc50)) ?_
         refine W.skip ?_
         exact ⟨((8192 / b1.length) * b1.length), hR, (zer (zer (zer zen))), h18⟩
       ·
        replace hR := ifF hR hc45
        refine W.condF (congrArg Value.bool (decide_eq_false hc45)) ?_
        refine W.skip ?_
        exact ⟨x_17.toNat, hR, (zer (zer (zer zen))), h18⟩
      ·
       rintro ev51 wl51 ⟨y_chunkMax42, hy51_0, he51, h51⟩
       subst hy51_0
       obtain ⟨ev51, rfl⟩ := he51.open
       replace hR := hR043
       refine k34 _ _ ?_; clear k34
       refine W.seq_k fun _ k52 => W.regionT [(0, true), (1, false), (2, true), (3, true), (4, true), (5, true)] (by kernel_rfl) ?_
       refine Plan.move_int rfl rfl ?_
       obtain ⟨hc54, hR⟩ := hR
       refine Plan.mkNZ h51 (ps := #[3]) (t := 40) (m := x_17.toNat) Tryd.func55 rfl rfl rfl rfl FBytes.slu40 hc54 rfl rfl (fun _ => EffO.keep PIn.nil) fun b53 cap53 F53 nz53 w53 hb53 hl53 ho53 h53 => ?_
       replace hR := hR nz53 hl53
       refine Plan.move_int rfl rfl <| Plan.move_int rfl rfl ?_
       obtain ⟨hc55, hR⟩ := hR
       refine Plan.sl3O (m := x_17.toNat) h53 0 ho53 FBytes.sl40 rfl rfl ⟨_, rfl⟩ ⟨_, rfl⟩ hc55 rfl fun ho56 h56 => ?_
       simp only [zca, zna, zsz, zss] at h56
       refine Plan.assign_slice rfl rfl <| Plan.nil (k52 _ _ ?_); clear k52
       refine W.seq_k fun _ k57 => W.regionT [(0, true), (1, true), (2, false), (3, true)] (by kernel_rfl) ?_
       refine Plan.move_slice rfl rfl <| Plan.move_slice rfl rfl ?_
       refine Plan.copyO0 (Y := b1) h56 0 (min b1.length ((seg nz53 0 x_17.toNat).length)) ho56 FBytes.sl40 rfl rfl rfl (hb1.app [_]) rfl rfl (fun _ => EffO.keep PIn.nil) fun F58 w58 ho58 h58 => ?_
       simp only [zca, zna, zsz, zss] at h58
       have e58 : (ovr (seg nz53 0 x_17.toNat) 0 (min b1.length ((seg nz53 0 x_17.toNat).length)) b1).length = (seg nz53 0 x_17.toNat).length := ovr_length _ _ _ _
       refine Plan.assign_int rfl rfl <| Plan.nil (k57 _ _ ?_); clear k57
       refine W.seq_k fun _ k59 => ?_
       obtain ⟨nb87, hI88, hR088⟩ := hR
       refine W.cutN (fun e w => ∃ y_nb87 : List Byte, nb87 = y_nb87 ∧ ∃ anb87 : Option Addr, ∃ pnb87 : Option Nat, ∃ cnb87 : Nat, ∃ Fnb87 : Nat → Byte, EnvHas e [(9, .slice anb87 ((seg nz53 0 x_17.toNat).length) cnb87)] ∧ St B w0 (⟨pnb87, 0, cnb87, fun q => VU .u8 (Fnb87 q), true⟩ :: L) w ∧ Ow anb87 pnb87 ((seg nz53 0 x_17.toNat).length) cnb87 Fnb87 y_nb87) ?_ ?_
       ·
        refine W.block ?_
        refine W.iter hI88 (fun (s88 : ((List Byte) × Nat)) e w => ∃ anb85 : Option Addr, ∃ pnb85 : Option Nat, ∃ cnb85 : Nat, ∃ Fnb85 : Nat → Byte, EnvHas e [(7, VN x_17.toNat), (8, VN chunkMax42), (9, .slice anb85 ((seg nz53 0 x_17.toNat).length) cnb85), (10, VN s88.2)] ∧ St B w0 (⟨pnb85, 0, cnb85, fun q => VU .u8 (Fnb85 q), true⟩ :: L) w ∧ Ow anb85 pnb85 ((seg nz53 0 x_17.toNat).length) cnb85 Fnb85 s88.1) ⟨some ⟨b53, 0, none⟩, some b53, x_17.toNat, F58, (zer (zer (zer (zer zen)))), h58, ho58⟩ ?_
        rintro ⟨nb85, bp86⟩ o88 hR hx88 ev89 wl89 ⟨anb85, pnb85, cnb85, Fnb85, he89, h89, hnb85⟩
        obtain ⟨ev89, rfl⟩ := he89.open
        unfold bytes_Repeat_l0 at hR
        refine W.seq_k fun _ k90 => W.seq_k fun _ k91 => ?_
        refine W.regionT [(0, true), (1, true), (2, true)] (by kernel_rfl) ?_
        refine Plan.move_int rfl rfl <| Plan.move_int rfl rfl <| Plan.cmpP (a := (((bp86 : Nat) : Int) : Int)) (b := (((x_17.toNat : Nat) : Int) : Int)) (p := bp86 < x_17.toNat) rfl rfl rfl rfl icmp_ltN <| Plan.nil (k91 _ _ ?_); clear k91
        by_cases hc92 : bp86 < x_17.toNat
        ·
         replace hR := ifT hR hc92
         refine W.condT (congrArg Value.bool (decide_eq_true hc92)) ?_
         refine W.skip ?_
         refine k90 _ _ ?_; clear k90
         refine W.block ?_
         refine W.seq_k fun _ k93 => W.regionT [(0, true), (1, true), (2, true), (3, true)] (by kernel_rfl) ?_
         refine Plan.move_int rfl rfl <| Plan.move_int rfl rfl <| Plan.minN (a := bp86) (b := chunkMax42) rfl rfl rfl <| Plan.assign_int rfl rfl <| Plan.nil (k93 _ _ ?_); clear k93
         refine W.regionD FBytes.mixed [(0, true), (1, true), (2, true), (3, true), (4, true), (5, true), (6, true), (7, false), (8, true), (9, true)] (by kernel_rfl) ?_
         have h94 := h89.drew
         refine Plan.move_int rfl rfl <| Plan.move_slice rfl rfl <| Plan.move_int rfl rfl ?_
         obtain ⟨hc95, hR⟩ := hR
         have hm96 := hnb85.hc
         refine Plan.slSl (lo := bp86) (hi := (seg nz53 0 x_17.toNat).length) FBytes.sl40 rfl rfl ⟨_, rfl⟩ rfl (by omega) <| Plan.move_slice rfl rfl <| Plan.move_int rfl rfl ?_
         obtain ⟨hc97, hR⟩ := hR
         have hm98 := hnb85.hc
         refine Plan.slSl (lo := 0) (hi := (min bp86 chunkMax42)) FBytes.sl40 rfl rfl rfl ⟨_, rfl⟩ (by omega) ?_
         refine Plan.copyO (lo := bp86) (hi := (seg nz53 0 x_17.toNat).length) (Y := (seg nb85 0 (min bp86 chunkMax42))) h94 0 (min ((min bp86 chunkMax42) - 0) ((seg nz53 0 x_17.toNat).length - bp86)) hnb85 FBytes.sl40 rfl rfl rfl ((hnb85.bx 0 rfl).seg (lo := 0) (hi := (min bp86 chunkMax42)) hc97) rfl hc95 rfl (fun _ => EffO.keep PIn.nil) fun F99 w99 ho99 h99 => ?_
         simp only [zca, zna, zsz, zss] at h99
         have e99 : (ovr nb85 bp86 (min ((min bp86 chunkMax42) - 0) ((seg nz53 0 x_17.toNat).length - bp86)) (seg nb85 0 (min bp86 chunkMax42))).length = nb85.length := ovr_length _ _ _ _
         obtain ⟨hc100, hR⟩ := hR
         refine Plan.addN (a := bp86) (b := (min ((min bp86 chunkMax42) - 0) ((seg nz53 0 x_17.toNat).length - bp86))) rfl rfl rfl (by omega) <| Plan.assign_int rfl rfl <| Plan.nil ?_
         refine blockR_norm ?_
         exact iterR_norm ⟨_, hR, anb85, pnb85, cnb85, F99, (zer (zer (zer (zer zen)))), h99, ho99⟩
        ·
         replace hR := ifF hR hc92
         refine W.condF (congrArg Value.bool (decide_eq_false hc92)) ?_
         refine W.exit (thenR_exit (iterR_exit (blockR_here ?_)))
         exact ⟨nb85, (hx88 _ hR).symm, anb85, pnb85, cnb85, Fnb85, (zer zen), h89, hnb85⟩
       ·
        rintro ev101 wl101 ⟨y_nb87, hy101, anb87, pnb87, cnb87, Fnb87, he101, h101, hnb87⟩
        obtain ⟨ev101, rfl⟩ := he101.open
        subst hy101
        replace hR := hR088
        refine k59 _ _ ?_; clear k59
        refine W.seq_k fun _ k102 => W.regionT [(0, true), (1, true)] (by kernel_rfl) ?_
        refine Plan.move_slice rfl rfl <| Plan.assign_slice rfl rfl <| Plan.nil (k102 _ _ ?_); clear k102
        refine W.ret (finR_ret ?_)
        subst r
        refine RetOk.mk (.tmp_slice rfl .nil) ?_
        exact ⟨anb87, pnb87, (seg nz53 0 x_17.toNat).length, cnb87, Fnb87, rfl, h101, hnb87⟩
end Go.Proofs.YtjclppnbbpnfnaaDoor
