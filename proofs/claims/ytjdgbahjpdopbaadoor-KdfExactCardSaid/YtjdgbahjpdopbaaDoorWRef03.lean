/-
  WALKS of the package's functions, printed by this session's own program (auto.py).
-/
import Derived.Test.YtjdgbahjpdopbaaDoorProg
import Derived.Test.YtjdgbahjpdopbaaDoorEc
import Derived.Test.YtjdgbahjpdopbaaDoorRRef03
import Derived.Test.YtjdgbahjpdopbaaDoorEls
import Derived.Test.YtjdgbahjpdopbaaDoorWRef02
namespace Go.Proofs.YtjdgbahjpdopbaaDoor
set_option linter.unusedSimpArgs false
set_option linter.unusedVariables false
set_option linter.unusedSectionVars false
open Go Go.LW
theorem FRef03.mixed : Tryd.prog.follows .mixedOrders = true := by kernel_rfl
theorem FRef03.sc22 : scalarT Tryd.prog 22 = true := by kernel_rfl
theorem FRef03.isl22 : ∃ el, Tryd.prog.underlying 22 = some (.slice el) := ⟨5, by kernel_rfl⟩
theorem FRef03.sl22 : slB Tryd.prog 22 1 = true := by kernel_rfl
theorem FRef03.el22 : elD Tryd.prog 22 = some (1, 1, some (VU .u8 0#8)) := by kernel_rfl
theorem FRef03.zv5 : (Tryd.prog.info? 5).bind (·.zero) = some (VU .u8 0#8) := by kernel_rfl
theorem FRef03.slu22 : Tryd.prog.underlying 22 = some (.slice 5) := by kernel_rfl
theorem FRef03.sz5 : szT Tryd.prog 5 1 = true := by kernel_rfl
theorem FRef03.zv22 : (Tryd.prog.info? 22).bind (·.zero) = some (.slice none 0 0) := by kernel_rfl
theorem FRef03.slu75 : Tryd.prog.underlying 75 = some (.slice 22) := by kernel_rfl
theorem FRef03.sz22 : szT Tryd.prog 22 1 = true := by kernel_rfl
theorem FRef03.isl75 : ∃ el, Tryd.prog.underlying 75 = some (.slice el) := ⟨22, by kernel_rfl⟩
theorem FRef03.sl75 : slB Tryd.prog 75 1 = true := by kernel_rfl
theorem FRef03.sc5 : scalarT Tryd.prog 5 = true := by kernel_rfl
theorem FRef03.some5 : (Tryd.prog.underlying 5).isSome = true := by kernel_rfl
theorem FRef03.some3 : (Tryd.prog.underlying 3).isSome = true := by kernel_rfl
theorem FRef03.u5 : Tryd.prog.underlying 5 = some (.int .u8) := by kernel_rfl
theorem FRef03.call59 : callB Tryd.prog 59 = true := by kernel_rfl
theorem FRef03.z31 : zeroIs Tryd.prog 31 [(32, fun _ => VU .u8 0#8)] := zeroIs_agg (by kernel_rfl)
theorem FRef03.arr31 : arrB Tryd.prog 31 32 1 = true := by kernel_rfl
theorem FRef03.agg31 : aggT Tryd.prog 31 32 = true := by kernel_rfl
theorem FRef03.sz31 : szT Tryd.prog 31 32 = true := by kernel_rfl
theorem FRef03.call53 : callB Tryd.prog 53 = true := by kernel_rfl
theorem FRef03.u3 : Tryd.prog.underlying 3 = some (.int .i64) := by kernel_rfl
theorem FRef03.call74 : callB Tryd.prog 74 = true := by kernel_rfl
theorem FRef03.call58 : callB Tryd.prog 58 = true := by kernel_rfl
theorem FRef03.call60 : callB Tryd.prog 60 = true := by kernel_rfl
theorem FRef03.call75 : callB Tryd.prog 75 = true := by kernel_rfl
theorem FRef03.call64 : callB Tryd.prog 64 = true := by kernel_rfl
theorem FRef03.zv31 : (Tryd.prog.info? 31).bind (·.zero) = some (AG [(32, fun _ => VU .u8 0#8)]) := by kernel_rfl
theorem FRef03.slu113 : Tryd.prog.underlying 113 = some (.slice 31) := by kernel_rfl
theorem FRef03.el113 : elD Tryd.prog 113 = some (32, 32, some (AG [(32, fun _ => VU .u8 0#8)])) := by kernel_rfl

set_option maxRecDepth 8000 in
set_option maxHeartbeats 1000000 in
theorem letheref03_Joined_ok {B : Nat} {w0 w : World} {L : List Rg} {parts1 : List (List Byte)} {aparts1 : Option Addr} {nparts1 cparts1 iparts1 : Nat} (hparts1 : Bss L iparts1 aparts1 nparts1 cparts1 parts1) {r : (List Byte)} (hR : letheref03_Joined parts1 r) (HST : St B w0 (L) w) :
    Calls Tryd.prog 59 #[.slice aparts1 nparts1 cparts1] w fun e w' => ∃ ay0 : Option Addr, ∃ py0 : Option Nat, ∃ ny0 : Nat, ∃ cy0 : Nat, ∃ Fy0 : Nat → Byte, e = .returned (.slice ay0 ny0 cy0) ∧ St B w0 (⟨py0, 0, cy0, fun q => VU .u8 (Fy0 q), true⟩ :: L) w' ∧ Ow ay0 py0 ny0 cy0 Fy0 r := by
  refine W.enter 18 Tryd.func59 rfl rfl rfl ?_
  unfold letheref03_Joined at hR
  have eparts1 := hparts1.hl; subst eparts1
  refine W.seq_k fun K2 hK2 => ?_
  refine W.regionT [(0, true)] (by kernel_rfl) ?_
  refine Plan.assign_slice rfl rfl ?_
  refine Plan.nil ?_
  refine hK2 _ _ ?_; clear hK2
  refine W.seq_k fun K3 hK3 => ?_
  refine W.regionT [(0, true)] (by kernel_rfl) ?_
  refine Plan.assign_slice rfl rfl ?_
  refine Plan.nil ?_
  refine hK3 _ _ ?_; clear hK3
  refine W.seq_k fun K4 hK4 => ?_
  refine W.seq_k fun K5 hK5 => ?_
  refine W.regionT [(0, true)] (by kernel_rfl) ?_
  refine Plan.assign_int rfl rfl ?_
  refine Plan.nil ?_
  refine hK5 _ _ ?_; clear hK5
  have h32 := HST.nilR
  obtain ⟨out30, hI31, hR031⟩ := hR
  refine W.cutN (fun e w => ∃ y_out30 : List Byte, out30 = y_out30 ∧ ∃ aout30 : Option Addr, ∃ pout30 : Option Nat, ∃ cout30 : Nat, ∃ Fout30 : Nat → Byte, EnvHas e [(3, .slice aout30 y_out30.length cout30)] ∧ St B w0 (⟨pout30, 0, cout30, fun q => VU .u8 (Fout30 q), true⟩ :: L) w ∧ Ow aout30 pout30 y_out30.length cout30 Fout30 y_out30) ?_ ?_
  ·
    refine W.block ?_
    refine W.iter hI31 (fun (s31 : ((List Byte) × Nat)) e w => ∃ aout27 : Option Addr, ∃ pout27 : Option Nat, ∃ cout27 : Nat, ∃ Fout27 : Nat → Byte, EnvHas e [(0, .slice aparts1 parts1.length cparts1), (3, .slice aout27 s31.1.length cout27), (4, VN s31.2)] ∧ St B w0 (⟨pout27, 0, cout27, fun q => VU .u8 (Fout27 q), true⟩ :: L) w ∧ Ow aout27 pout27 s31.1.length cout27 Fout27 s31.1) ⟨none, none, 0, (fun _ => 0#8), (EnvHas.cons rfl (EnvHas.cons rfl (EnvHas.cons rfl EnvHas.nil))), h32, Ow.nil⟩ ?_
    rintro ⟨out27, i_29⟩ o31 hR hx31 ev33 wl33 ⟨aout27, pout27, cout27, Fout27, he33, h33, hout27⟩
    obtain ⟨ev33, rfl⟩ := he33.open
    unfold letheref03_Joined_l0 at hR
    refine W.seq_k fun K34 hK34 => ?_
    refine W.seq_k fun K35 hK35 => ?_
    refine W.regionT [(0, true), (1, true), (2, true), (3, true)] (by kernel_rfl) ?_
    refine Plan.move_int rfl rfl ?_
    refine Plan.move_slice rfl rfl ?_
    refine Plan.len FRef03.isl75 rfl rfl ?_
    refine Plan.cmpP (a := (((i_29 : Nat) : Int) : Int)) (b := (((parts1.length : Nat) : Int) : Int)) (p := i_29 < parts1.length) rfl rfl rfl rfl icmp_ltN ?_
    refine Plan.nil ?_
    refine hK35 _ _ ?_; clear hK35
    by_cases hc36 : i_29 < parts1.length
    ·
      replace hR := ifT hR hc36
      refine W.condT (congrArg Value.bool (decide_eq_true hc36)) ?_
      refine W.skip ?_
      refine hK34 _ _ ?_; clear hK34
      refine W.seq_k fun K37 hK37 => ?_
      refine W.block ?_
      refine W.regionT [(0, true), (1, true), (2, true), (3, true), (4, true), (5, false), (6, true)] (by kernel_rfl) ?_
      refine Plan.move_slice rfl rfl ?_
      refine Plan.move_slice rfl rfl ?_
      refine Plan.move_int rfl rfl ?_
      obtain ⟨hc38, hR⟩ := hR
      refine Plan.idxBss (j := i_29) hparts1 FRef03.sl75 rfl rfl rfl hc38 ?_
      refine Plan.loadBss (D := [_]) (j := i_29) h33 hparts1 rfl rfl hc38 FRef03.sc22 fun r39 i39 a39 c39 hr39 hv39 => ?_
      obtain ⟨hc41, hR⟩ := hR
      refine Plan.appendO (X := out27) (Y := (parts1.getD i_29 [])) h33 0 hout27 FRef03.el22 FRef03.sl22 rfl rfl rfl rfl (hv39.app [_]) hc41 (fun _ => EffO.wait rfl) fun a40 pb40 cap40 F40 w40 ho40 h40 => ?_
      simp only [List.cons_append, List.nil_append, List.set_cons_zero, List.set_cons_succ] at h40
      refine Plan.assign_slice rfl rfl ?_
      refine Plan.nil ?_
      refine blockR_norm ?_
      refine hK37 _ _ ?_; clear hK37
      refine W.regionT [(0, true), (1, true), (2, true)] (by kernel_rfl) ?_
      refine Plan.move_int rfl rfl ?_
      obtain ⟨hc42, hR⟩ := hR
      refine Plan.addN (a := i_29) (b := 1) rfl rfl rfl (by omega) ?_
      refine Plan.assign_int rfl rfl ?_
      refine Plan.nil ?_
      exact iterR_norm ⟨_, hR, a40, pb40, cap40, F40, (EnvHas.cons rfl (EnvHas.cons rfl (EnvHas.cons rfl EnvHas.nil))), h40, ho40⟩
    ·
      replace hR := ifF hR hc36
      refine W.condF (congrArg Value.bool (decide_eq_false hc36)) ?_
      refine W.exit (thenR_exit (iterR_exit (blockR_here ?_)))
      exact ⟨out27, (hx31 _ hR).symm, aout27, pout27, cout27, Fout27, (EnvHas.cons rfl EnvHas.nil), h33, hout27⟩
  ·
    rintro ev43 wl43 ⟨y_out30, hy43, aout30, pout30, cout30, Fout30, he43, h43, hout30⟩
    obtain ⟨ev43, rfl⟩ := he43.open
    subst hy43
    replace hR := hR031
    refine hK4 _ _ ?_; clear hK4
    refine W.seq_k fun K44 hK44 => ?_
    refine W.regionT [(0, true), (1, true)] (by kernel_rfl) ?_
    refine Plan.move_slice rfl rfl ?_
    refine Plan.assign_slice rfl rfl ?_
    refine Plan.nil ?_
    refine hK44 _ _ ?_; clear hK44
    refine W.ret (finR_ret ?_)
    subst r
    refine RetOk.mk (.tmp_slice rfl .nil) ?_
    exact ⟨aout30, pout30, out30.length, cout30, Fout30, rfl, h43, hout30⟩


set_option maxRecDepth 8000 in
set_option maxHeartbeats 1000000 in
theorem letheref03_turned_ok {B : Nat} {w0 w : World} {L : List Rg} {iG2 : Nat} (hG2 : L[iG2]? = some ⟨some 2, 0, 64, fun q => VU .u64 (K64 q), false⟩) {iG3 : Nat} (hG3 : L[iG3]? = some ⟨some 3, 0, 8, fun q => VU .u64 (H64 q), false⟩) {key1 : List Byte} {akey1 : Option Addr} {nkey1 ckey1 ikey1 : Nat} (hkey1 : Bx L ikey1 akey1 nkey1 ckey1 key1) {x_2 : Int} {r : (List Byte)} (hR : letheref03_turned key1 x_2 r) (HST : St B w0 (L) w) :
    Calls Tryd.prog 74 #[.slice akey1 nkey1 ckey1, .int .i64 x_2] w fun e w' => ∃ ay0 : Option Addr, ∃ py0 : Option Nat, ∃ ny0 : Nat, ∃ cy0 : Nat, ∃ Fy0 : Nat → Byte, e = .returned (.slice ay0 ny0 cy0) ∧ St B w0 (⟨py0, 0, cy0, fun q => VU .u8 (Fy0 q), true⟩ :: L) w' ∧ Ow ay0 py0 ny0 cy0 Fy0 r := by
  refine W.enter 53 Tryd.func74 rfl rfl rfl ?_
  unfold letheref03_turned at hR
  have ekey1 := hkey1.hl; subst ekey1
  refine W.seq_k fun K3 hK3 => ?_
  refine W.regionT [(0, true)] (by kernel_rfl) ?_
  refine Plan.assign_slice rfl rfl ?_
  refine Plan.nil ?_
  refine hK3 _ _ ?_; clear hK3
  refine W.seq_k fun K4 hK4 => ?_
  refine W.regionT [(0, false), (1, true)] (by kernel_rfl) ?_
  refine Plan.makeO (len := 64) (c := 64) HST FRef03.el22 rfl rfl rfl (by omega) (by omega) (fun _ => EffO.keep PIn.nil) fun b5 w5 hb5 ho5 h5 => ?_
  refine Plan.assign_slice rfl rfl ?_
  refine Plan.nil ?_
  refine hK4 _ _ ?_; clear hK4
  refine W.seq_k fun K6 hK6 => ?_
  refine W.seq_k fun K15 hK15 => ?_
  refine W.regionT [(0, true), (1, true), (2, true)] (by kernel_rfl) ?_
  refine Plan.move_slice rfl rfl ?_
  refine Plan.len FRef03.isl22 rfl rfl ?_
  refine Plan.cmpP (a := (((key1.length : Nat) : Int) : Int)) (b := (64 : Int)) (p := 64 < key1.length) rfl rfl rfl rfl icmp_gtN ?_
  refine Plan.nil ?_
  refine hK15 _ _ ?_; clear hK15
  by_cases hc16 : 64 < key1.length
  ·
    replace hR := ifT hR hc16
    refine W.condT (congrArg Value.bool (decide_eq_true hc16)) ?_
    refine W.seq_k fun K17 hK17 => ?_
    refine W.regionT [(0, true), (1, false), (2, false), (3, false)] (by kernel_rfl) ?_
    refine Plan.move_slice rfl rfl ?_
    obtain ⟨x_19, hr18, hR⟩ := hR
    refine Plan.call (vs := [.slice akey1 key1.length ckey1]) rfl FRef03.call53 rfl (letheref02_Sum_ok (iG2 := iG2 + 1) hG2 (iG3 := iG3 + 1) hG3 (hkey1.app [_]) hr18 h5) ?_
    rintro _ w20 ⟨rfl, h20⟩
    refine ⟨_, rfl, .inl ⟨PIn.keep PIn.nil h20, ?_⟩⟩
    refine Plan.alloc h20 rfl FRef03.z31 PIn.nil fun b21 w21 hb21 h21 => ?_
    simp only [rngs, Nat.zero_add, Nat.reduceAdd, List.cons_append, List.nil_append] at h21
    refine Plan.storeA (f' := fun q => VU .u8 (x_19 q)) h21 0 rfl rfl rfl rfl (fun _ _ => rfl) FRef03.sz31 rfl fun w22 h22 => ?_
    simp only [List.cons_append, List.nil_append, List.set_cons_zero, List.set_cons_succ] at h22
    refine Plan.nil ?_
    refine hK17 _ _ ?_; clear hK17
    refine W.regionT [(0, true), (1, true)] (by kernel_rfl) ?_
    refine Plan.slArrO (lo := 0) (hi := 32) (m := 32) (c := 32) (o' := 0) FRef03.arr31 rfl rfl rfl rfl (by omega) (by omega) (by omega) (by omega) ?_
    refine Plan.assign_slice rfl rfl ?_
    refine Plan.nil ?_
    refine hK6 _ _ ?_; clear hK6
    refine W.seq_k fun K23 hK23 => ?_
    refine W.seq_k fun K24 hK24 => ?_
    refine W.regionT [(0, true)] (by kernel_rfl) ?_
    refine Plan.assign_int rfl rfl ?_
    refine Plan.nil ?_
    refine hK24 _ _ ?_; clear hK24
    obtain ⟨out172, hI173, hR0173⟩ := hR
    refine W.cutN (fun e w => ∃ y_out172 : List Byte, out172 = y_out172 ∧ ∃ aout172 : Option Addr, ∃ pout172 : Option Nat, ∃ cout172 : Nat, ∃ Fout172 : Nat → Byte, EnvHas e [(5, .slice aout172 ((List.replicate 64 0#8).length) cout172)] ∧ St B w0 (⟨pout172, 0, cout172, fun q => VU .u8 (Fout172 q), true⟩ :: L) w ∧ Ow aout172 pout172 ((List.replicate 64 0#8).length) cout172 Fout172 y_out172) ?_ ?_
    ·
      refine W.block ?_
      refine W.iter hI173 (fun (s173 : ((List Byte) × (List Byte) × Nat)) e w => ∃ akey169 : Option Addr, ∃ pkey169 : Option Nat, ∃ ckey169 : Nat, ∃ Fkey169 : Nat → Byte, ∃ aout170 : Option Addr, ∃ pout170 : Option Nat, ∃ cout170 : Nat, ∃ Fout170 : Nat → Byte, EnvHas e [(0, .slice akey169 32 ckey169), (1, .int .i64 x_2), (5, .slice aout170 ((List.replicate 64 0#8).length) cout170), (7, VN s173.2.2)] ∧ St B w0 (⟨pkey169, 0, ckey169, fun q => VU .u8 (Fkey169 q), true⟩ :: ⟨pout170, 0, cout170, fun q => VU .u8 (Fout170 q), true⟩ :: L) w ∧ Ow akey169 pkey169 32 ckey169 Fkey169 s173.1 ∧ Ow aout170 pout170 ((List.replicate 64 0#8).length) cout170 Fout170 s173.2.1) ⟨some ⟨b21, 0, none⟩, some b21, 32, x_19, some ⟨b5, 0, none⟩, some b5, 64, (fun _ => 0#8), (EnvHas.cons rfl (EnvHas.cons rfl (EnvHas.cons rfl (EnvHas.cons rfl EnvHas.nil)))), h22, Ow.arr, ho5⟩ ?_
      rintro ⟨key169, out170, i_171⟩ o173 hR hx173 ev174 wl174 ⟨akey169, pkey169, ckey169, Fkey169, aout170, pout170, cout170, Fout170, he174, h174, hkey169, hout170⟩
      obtain ⟨ev174, rfl⟩ := he174.open
      unfold letheref03_turned_l0 at hR
      refine W.seq_k fun K175 hK175 => ?_
      refine W.seq_k fun K176 hK176 => ?_
      refine W.regionT [(0, true), (1, true)] (by kernel_rfl) ?_
      refine Plan.move_int rfl rfl ?_
      refine Plan.cmpP (a := (((i_171 : Nat) : Int) : Int)) (b := (64 : Int)) (p := i_171 < 64) rfl rfl rfl rfl icmp_ltN ?_
      refine Plan.nil ?_
      refine hK176 _ _ ?_; clear hK176
      by_cases hc177 : i_171 < 64
      ·
        replace hR := ifT hR hc177
        refine W.condT (congrArg Value.bool (decide_eq_true hc177)) ?_
        refine W.skip ?_
        refine hK175 _ _ ?_; clear hK175
        refine W.seq_k fun K178 hK178 => ?_
        refine W.block ?_
        refine W.seq_k fun K179 hK179 => ?_
        refine W.regionT [(0, true)] (by kernel_rfl) ?_
        refine Plan.assign_int rfl rfl ?_
        refine Plan.nil ?_
        refine hK179 _ _ ?_; clear hK179
        refine W.seq_k fun K180 hK180 => ?_
        obtain ⟨key185, out186, k187, hX188, hR0188⟩ := hR
        refine W.cutN (fun e w => ∃ y_key185 : List Byte, ∃ y_out186 : List Byte, ∃ y_k187 : Nat, (key185 = y_key185 ∧ out186 = y_out186 ∧ k187 = y_k187) ∧ ∃ akey185 : Option Addr, ∃ pkey185 : Option Nat, ∃ ckey185 : Nat, ∃ Fkey185 : Nat → Byte, ∃ aout186 : Option Addr, ∃ pout186 : Option Nat, ∃ cout186 : Nat, ∃ Fout186 : Nat → Byte, EnvHas e [(0, .slice akey185 32 ckey185), (1, .int .i64 x_2), (5, .slice aout186 ((List.replicate 64 0#8).length) cout186), (7, VN i_171), (8, VN y_k187)] ∧ St B w0 (⟨pkey185, 0, ckey185, fun q => VU .u8 (Fkey185 q), true⟩ :: ⟨pout186, 0, cout186, fun q => VU .u8 (Fout186 q), true⟩ :: L) w ∧ Ow akey185 pkey185 32 ckey185 Fkey185 y_key185 ∧ Ow aout186 pout186 ((List.replicate 64 0#8).length) cout186 Fout186 y_out186) ?_ ?_
        ·
          replace hR := hX188
          refine W.seq_k fun K189 hK189 => ?_
          refine W.regionT [(0, true), (1, true), (2, true), (3, true)] (by kernel_rfl) ?_
          refine Plan.move_int rfl rfl ?_
          refine Plan.move_slice rfl rfl ?_
          refine Plan.len FRef03.isl22 rfl rfl ?_
          refine Plan.cmpP (a := (((i_171 : Nat) : Int) : Int)) (b := (32 : Int)) (p := i_171 < 32) rfl rfl rfl rfl icmp_ltN ?_
          refine Plan.nil ?_
          refine hK189 _ _ ?_; clear hK189
          by_cases hc190 : i_171 < 32
          ·
            replace hR := ifT hR hc190
            refine W.condT (congrArg Value.bool (decide_eq_true hc190)) ?_
            refine W.regionT [(0, true), (1, true), (2, true), (3, true), (4, true), (5, true)] (by kernel_rfl) ?_
            refine Plan.move_slice rfl rfl ?_
            refine Plan.move_int rfl rfl ?_
            obtain ⟨hc191, hR⟩ := hR
            refine Plan.idxVS (j := i_171) h174 (hkey169.bx 0 rfl) FRef03.sl22 rfl rfl rfl hc191 ?_
            refine Plan.loadV (j := i_171) h174 (hkey169.bx 0 rfl) rfl rfl hc191 FRef03.sc5 fun r192 hr192 => ?_
            refine Plan.convN (a := (lit key169 i_171).toNat) FRef03.u3 FRef03.some5 rfl rfl (Nat.lt_of_lt_of_le (lit key169 i_171).isLt (by decide)) ?_
            refine Plan.assign_int rfl rfl ?_
            refine Plan.nil ?_
            exact ⟨key169, out170, (lit key169 i_171).toNat, hR, akey169, pkey169, ckey169, Fkey169, aout170, pout170, cout170, Fout170, (EnvHas.cons rfl (EnvHas.cons rfl (EnvHas.cons rfl (EnvHas.cons rfl (EnvHas.cons rfl EnvHas.nil))))), h174, hkey169, hout170⟩
          ·
            replace hR := ifF hR hc190
            refine W.condF (congrArg Value.bool (decide_eq_false hc190)) ?_
            refine W.skip ?_
            exact ⟨key169, out170, 0, hR, akey169, pkey169, ckey169, Fkey169, aout170, pout170, cout170, Fout170, (EnvHas.cons rfl (EnvHas.cons rfl (EnvHas.cons rfl (EnvHas.cons rfl (EnvHas.cons rfl EnvHas.nil))))), h174, hkey169, hout170⟩
        ·
          rintro ev193 wl193 ⟨y_key185, y_out186, y_k187, ⟨hy193_0, hy193_1, hy193_2⟩, akey185, pkey185, ckey185, Fkey185, aout186, pout186, cout186, Fout186, he193, h193, hkey185, hout186⟩
          subst hy193_0
          subst hy193_1
          subst hy193_2
          obtain ⟨ev193, rfl⟩ := he193.open
          replace hR := hR0188
          refine hK180 _ _ ?_; clear hK180
          refine W.seq_k fun K194 hK194 => ?_
          refine W.regionT [(0, true)] (by kernel_rfl) ?_
          refine Plan.assign_int rfl rfl ?_
          refine Plan.nil ?_
          refine hK194 _ _ ?_; clear hK194
          refine W.seq_k fun K195 hK195 => ?_
          refine W.seq_k fun K196 hK196 => ?_
          refine W.regionT [(0, true)] (by kernel_rfl) ?_
          refine Plan.assign_int rfl rfl ?_
          refine Plan.nil ?_
          refine hK196 _ _ ?_; clear hK196
          obtain ⟨key229, out230, n_231, hI232, hR0232⟩ := hR
          refine W.cutN (fun e w => ∃ y_key229 : List Byte, ∃ y_out230 : List Byte, ∃ y_n_231 : Nat, (key229, out230, n_231) = (y_key229, y_out230, y_n_231) ∧ ∃ akey229 : Option Addr, ∃ pkey229 : Option Nat, ∃ ckey229 : Nat, ∃ Fkey229 : Nat → Byte, ∃ aout230 : Option Addr, ∃ pout230 : Option Nat, ∃ cout230 : Nat, ∃ Fout230 : Nat → Byte, EnvHas e [(0, .slice akey229 32 ckey229), (1, .int .i64 x_2), (5, .slice aout230 ((List.replicate 64 0#8).length) cout230), (7, VN i_171), (9, VN y_n_231)] ∧ St B w0 (⟨pkey229, 0, ckey229, fun q => VU .u8 (Fkey229 q), true⟩ :: ⟨pout230, 0, cout230, fun q => VU .u8 (Fout230 q), true⟩ :: L) w ∧ Ow akey229 pkey229 32 ckey229 Fkey229 y_key229 ∧ Ow aout230 pout230 ((List.replicate 64 0#8).length) cout230 Fout230 y_out230) ?_ ?_
          ·
            refine W.block ?_
            refine W.iter hI232 (fun (s232 : ((List Byte) × (List Byte) × Nat × Nat)) e w => ∃ akey225 : Option Addr, ∃ pkey225 : Option Nat, ∃ ckey225 : Nat, ∃ Fkey225 : Nat → Byte, ∃ aout226 : Option Addr, ∃ pout226 : Option Nat, ∃ cout226 : Nat, ∃ Fout226 : Nat → Byte, EnvHas e [(0, .slice akey225 32 ckey225), (1, .int .i64 x_2), (5, .slice aout226 ((List.replicate 64 0#8).length) cout226), (7, VN i_171), (8, VN k187), (9, VN s232.2.2.1), (10, VN s232.2.2.2)] ∧ St B w0 (⟨pkey225, 0, ckey225, fun q => VU .u8 (Fkey225 q), true⟩ :: ⟨pout226, 0, cout226, fun q => VU .u8 (Fout226 q), true⟩ :: L) w ∧ Ow akey225 pkey225 32 ckey225 Fkey225 s232.1 ∧ Ow aout226 pout226 ((List.replicate 64 0#8).length) cout226 Fout226 s232.2.1) ⟨akey185, pkey185, ckey185, Fkey185, aout186, pout186, cout186, Fout186, (EnvHas.cons rfl (EnvHas.cons rfl (EnvHas.cons rfl (EnvHas.cons rfl (EnvHas.cons rfl (EnvHas.cons rfl (EnvHas.cons rfl EnvHas.nil))))))), h193, hkey185, hout186⟩ ?_
            rintro ⟨key225, out226, n_227, bit228⟩ o232 hR hx232 ev233 wl233 ⟨akey225, pkey225, ckey225, Fkey225, aout226, pout226, cout226, Fout226, he233, h233, hkey225, hout226⟩
            obtain ⟨ev233, rfl⟩ := he233.open
            unfold letheref03_turned_l1 at hR
            refine W.seq_k fun K234 hK234 => ?_
            refine W.seq_k fun K235 hK235 => ?_
            refine W.regionT [(0, true), (1, true)] (by kernel_rfl) ?_
            refine Plan.move_int rfl rfl ?_
            refine Plan.cmpP (a := (((bit228 : Nat) : Int) : Int)) (b := (256 : Int)) (p := bit228 < 256) rfl rfl rfl rfl icmp_ltN ?_
            refine Plan.nil ?_
            refine hK235 _ _ ?_; clear hK235
            by_cases hc236 : bit228 < 256
            ·
              replace hR := ifT hR hc236
              refine W.condT (congrArg Value.bool (decide_eq_true hc236)) ?_
              refine W.skip ?_
              refine hK234 _ _ ?_; clear hK234
              refine W.seq_k fun K237 hK237 => ?_
              refine W.block ?_
              refine W.seq_k fun K238 hK238 => ?_
              refine W.regionD FRef03.mixed [(0, true), (1, true), (2, true), (3, true), (4, true), (5, true), (6, true), (7, true), (8, true)] (by kernel_rfl) ?_
              have h239 := h233.drew
              refine Plan.move_int rfl rfl ?_
              refine Plan.move_int rfl rfl ?_
              obtain ⟨hc240, hR⟩ := hR
              obtain ⟨hc241, hR⟩ := hR
              refine Plan.quoN (a := k187) (b := bit228) rfl rfl rfl (by omega) ?_
              refine Plan.remN (a := (k187 / bit228)) (b := 2) rfl rfl rfl (by omega) ?_
              refine Plan.move_int rfl rfl ?_
              refine Plan.move_int rfl rfl ?_
              obtain ⟨hc242, hR⟩ := hR
              obtain ⟨hc243, hR⟩ := hR
              refine Plan.quoIw (a := x_2) (b := ((bit228 : Nat) : Int)) rfl rfl rfl hc242 hc243 ?_
              have hb244 := tmod_bd (x_2.tdiv ((bit228 : Nat) : Int)) (c := 2) (by decide)
              refine Plan.remI (a := (x_2.tdiv ((bit228 : Nat) : Int))) (b := 2) rfl rfl rfl (by omega) ?_
              refine Plan.cmpP (a := (((((k187 / bit228) % 2) : Nat) : Int) : Int)) (b := (((x_2.tdiv ((bit228 : Nat) : Int)).tmod 2) : Int)) (p := ((((k187 / bit228) % 2) : Nat) : Int) ≠ ((x_2.tdiv ((bit228 : Nat) : Int)).tmod 2)) rfl rfl rfl rfl icmp_ne ?_
              refine Plan.nil ?_
              refine hK238 _ _ ?_; clear hK238
              by_cases hc245 : ((((k187 / bit228) % 2) : Nat) : Int) ≠ ((x_2.tdiv ((bit228 : Nat) : Int)).tmod 2)
              ·
                replace hR := ifT hR hc245
                refine W.condT (congrArg Value.bool (decide_eq_true hc245)) ?_
                refine W.regionT [(0, true), (1, true), (2, true), (3, true)] (by kernel_rfl) ?_
                refine Plan.move_int rfl rfl ?_
                refine Plan.move_int rfl rfl ?_
                obtain ⟨hc246, hR⟩ := hR
                refine Plan.addN (a := n_227) (b := bit228) rfl rfl rfl (by omega) ?_
                refine Plan.assign_int rfl rfl ?_
                refine Plan.nil ?_
                refine blockR_norm ?_
                refine hK237 _ _ ?_; clear hK237
                refine W.regionT [(0, true), (1, true), (2, true)] (by kernel_rfl) ?_
                refine Plan.move_int rfl rfl ?_
                refine Plan.mulN (a := bit228) (b := 2) rfl rfl rfl (by omega) ?_
                refine Plan.assign_int rfl rfl ?_
                refine Plan.nil ?_
                exact iterR_norm ⟨_, hR, akey225, pkey225, ckey225, Fkey225, aout226, pout226, cout226, Fout226, (EnvHas.cons rfl (EnvHas.cons rfl (EnvHas.cons rfl (EnvHas.cons rfl (EnvHas.cons rfl (EnvHas.cons rfl (EnvHas.cons rfl EnvHas.nil))))))), h239, hkey225, hout226⟩
              ·
                replace hR := ifF hR hc245
                refine W.condF (congrArg Value.bool (decide_eq_false hc245)) ?_
                refine W.skip ?_
                refine blockR_norm ?_
                refine hK237 _ _ ?_; clear hK237
                refine W.regionT [(0, true), (1, true), (2, true)] (by kernel_rfl) ?_
                refine Plan.move_int rfl rfl ?_
                refine Plan.mulN (a := bit228) (b := 2) rfl rfl rfl (by omega) ?_
                refine Plan.assign_int rfl rfl ?_
                refine Plan.nil ?_
                exact iterR_norm ⟨_, hR, akey225, pkey225, ckey225, Fkey225, aout226, pout226, cout226, Fout226, (EnvHas.cons rfl (EnvHas.cons rfl (EnvHas.cons rfl (EnvHas.cons rfl (EnvHas.cons rfl (EnvHas.cons rfl (EnvHas.cons rfl EnvHas.nil))))))), h239, hkey225, hout226⟩
            ·
              replace hR := ifF hR hc236
              refine W.condF (congrArg Value.bool (decide_eq_false hc236)) ?_
              refine W.exit (thenR_exit (iterR_exit (blockR_here ?_)))
              exact ⟨key225, out226, n_227, (hx232 _ hR).symm, akey225, pkey225, ckey225, Fkey225, aout226, pout226, cout226, Fout226, (EnvHas.cons rfl (EnvHas.cons rfl (EnvHas.cons rfl (EnvHas.cons rfl (EnvHas.cons rfl EnvHas.nil))))), h233, hkey225, hout226⟩
          ·
            rintro ev247 wl247 ⟨y_key229, y_out230, y_n_231, hy247, akey229, pkey229, ckey229, Fkey229, aout230, pout230, cout230, Fout230, he247, h247, hkey229, hout230⟩
            obtain ⟨ev247, rfl⟩ := he247.open
            cases hy247
            replace hR := hR0232
            refine hK195 _ _ ?_; clear hK195
            refine W.regionT [(0, true), (1, true), (2, true), (3, true), (4, true), (5, false)] (by kernel_rfl) ?_
            refine Plan.move_slice rfl rfl ?_
            refine Plan.move_int rfl rfl ?_
            refine Plan.move_int rfl rfl ?_
            refine Plan.convNU .u8 (a := n_231) FRef03.u5 FRef03.some3 rfl rfl ?_
            obtain ⟨hc248, hR⟩ := hR
            refine Plan.idxVS (j := i_171) h247 (hout230.bx 1 rfl) FRef03.sl22 rfl rfl rfl hc248 ?_
            refine Plan.storeO (j := i_171) (Y := (BitVec.ofNat 8 n_231)) h247 1 hout230 rfl rfl rfl rfl hc248 FRef03.sz5 rfl fun w249 F249 ho249 h249 => ?_
            simp only [List.cons_append, List.nil_append, List.set_cons_zero, List.set_cons_succ] at h249
            have e249 : (out230.set i_171 (BitVec.ofNat 8 n_231)).length = out230.length := List.length_set
            refine Plan.nil ?_
            refine blockR_norm ?_
            refine hK178 _ _ ?_; clear hK178
            refine W.regionT [(0, true), (1, true), (2, true)] (by kernel_rfl) ?_
            refine Plan.move_int rfl rfl ?_
            refine Plan.addN (a := i_171) (b := 1) rfl rfl rfl (by omega) ?_
            refine Plan.assign_int rfl rfl ?_
            refine Plan.nil ?_
            exact iterR_norm ⟨_, hR, akey229, pkey229, ckey229, Fkey229, aout230, pout230, cout230, F249, (EnvHas.cons rfl (EnvHas.cons rfl (EnvHas.cons rfl (EnvHas.cons rfl EnvHas.nil)))), h249, hkey229, (show Ow _ _ ((List.replicate 64 0#8).length) _ _ _ from ho249)⟩
      ·
        replace hR := ifF hR hc177
        refine W.condF (congrArg Value.bool (decide_eq_false hc177)) ?_
        refine W.exit (thenR_exit (iterR_exit (blockR_here ?_)))
        have h250 := St.pickT (C := [_, _]) h174 [1] (by decide)
        simp only [pick, List.filterMap_cons, List.filterMap_nil, List.getElem?_cons_zero, List.getElem?_cons_succ, List.cons_append, List.nil_append] at h250
        exact ⟨out170, (hx173 _ hR).symm, aout170, pout170, cout170, Fout170, (EnvHas.cons rfl EnvHas.nil), h250, hout170⟩
    ·
      rintro ev251 wl251 ⟨y_out172, hy251, aout172, pout172, cout172, Fout172, he251, h251, hout172⟩
      obtain ⟨ev251, rfl⟩ := he251.open
      subst hy251
      replace hR := hR0173
      refine hK23 _ _ ?_; clear hK23
      refine W.seq_k fun K252 hK252 => ?_
      refine W.regionT [(0, true), (1, true)] (by kernel_rfl) ?_
      refine Plan.move_slice rfl rfl ?_
      refine Plan.assign_slice rfl rfl ?_
      refine Plan.nil ?_
      refine hK252 _ _ ?_; clear hK252
      refine W.ret (finR_ret ?_)
      subst r
      refine RetOk.mk (.tmp_slice rfl .nil) ?_
      exact ⟨aout172, pout172, (List.replicate 64 0#8).length, cout172, Fout172, rfl, h251, hout172⟩
  ·
    replace hR := ifF hR hc16
    refine W.condF (congrArg Value.bool (decide_eq_false hc16)) ?_
    refine W.skip ?_
    refine hK6 _ _ ?_; clear hK6
    refine W.seq_k fun K253 hK253 => ?_
    refine W.seq_k fun K254 hK254 => ?_
    refine W.regionT [(0, true)] (by kernel_rfl) ?_
    refine Plan.assign_int rfl rfl ?_
    refine Plan.nil ?_
    refine hK254 _ _ ?_; clear hK254
    obtain ⟨out399, hI400, hR0400⟩ := hR
    refine W.cutN (fun e w => ∃ y_out399 : List Byte, out399 = y_out399 ∧ ∃ aout399 : Option Addr, ∃ pout399 : Option Nat, ∃ cout399 : Nat, ∃ Fout399 : Nat → Byte, EnvHas e [(5, .slice aout399 ((List.replicate 64 0#8).length) cout399)] ∧ St B w0 (⟨pout399, 0, cout399, fun q => VU .u8 (Fout399 q), true⟩ :: L) w ∧ Ow aout399 pout399 ((List.replicate 64 0#8).length) cout399 Fout399 y_out399) ?_ ?_
    ·
      refine W.block ?_
      refine W.iter hI400 (fun (s400 : ((List Byte) × Nat)) e w => ∃ aout397 : Option Addr, ∃ pout397 : Option Nat, ∃ cout397 : Nat, ∃ Fout397 : Nat → Byte, EnvHas e [(0, .slice akey1 key1.length ckey1), (1, .int .i64 x_2), (5, .slice aout397 ((List.replicate 64 0#8).length) cout397), (7, VN s400.2)] ∧ St B w0 (⟨pout397, 0, cout397, fun q => VU .u8 (Fout397 q), true⟩ :: L) w ∧ Ow aout397 pout397 ((List.replicate 64 0#8).length) cout397 Fout397 s400.1) ⟨some ⟨b5, 0, none⟩, some b5, 64, (fun _ => 0#8), (EnvHas.cons rfl (EnvHas.cons rfl (EnvHas.cons rfl (EnvHas.cons rfl EnvHas.nil)))), h5, ho5⟩ ?_
      rintro ⟨out397, i_398⟩ o400 hR hx400 ev401 wl401 ⟨aout397, pout397, cout397, Fout397, he401, h401, hout397⟩
      obtain ⟨ev401, rfl⟩ := he401.open
      unfold letheref03_turned_l2 at hR
      refine W.seq_k fun K402 hK402 => ?_
      refine W.seq_k fun K403 hK403 => ?_
      refine W.regionT [(0, true), (1, true)] (by kernel_rfl) ?_
      refine Plan.move_int rfl rfl ?_
      refine Plan.cmpP (a := (((i_398 : Nat) : Int) : Int)) (b := (64 : Int)) (p := i_398 < 64) rfl rfl rfl rfl icmp_ltN ?_
      refine Plan.nil ?_
      refine hK403 _ _ ?_; clear hK403
      by_cases hc404 : i_398 < 64
      ·
        replace hR := ifT hR hc404
        refine W.condT (congrArg Value.bool (decide_eq_true hc404)) ?_
        refine W.skip ?_
        refine hK402 _ _ ?_; clear hK402
        refine W.seq_k fun K405 hK405 => ?_
        refine W.block ?_
        refine W.seq_k fun K406 hK406 => ?_
        refine W.regionT [(0, true)] (by kernel_rfl) ?_
        refine Plan.assign_int rfl rfl ?_
        refine Plan.nil ?_
        refine hK406 _ _ ?_; clear hK406
        refine W.seq_k fun K407 hK407 => ?_
        obtain ⟨out412, k413, hX414, hR0414⟩ := hR
        refine W.cutN (fun e w => ∃ y_out412 : List Byte, ∃ y_k413 : Nat, (out412 = y_out412 ∧ k413 = y_k413) ∧ ∃ aout412 : Option Addr, ∃ pout412 : Option Nat, ∃ cout412 : Nat, ∃ Fout412 : Nat → Byte, EnvHas e [(0, .slice akey1 key1.length ckey1), (1, .int .i64 x_2), (5, .slice aout412 ((List.replicate 64 0#8).length) cout412), (7, VN i_398), (8, VN y_k413)] ∧ St B w0 (⟨pout412, 0, cout412, fun q => VU .u8 (Fout412 q), true⟩ :: L) w ∧ Ow aout412 pout412 ((List.replicate 64 0#8).length) cout412 Fout412 y_out412) ?_ ?_
        ·
          replace hR := hX414
          refine W.seq_k fun K415 hK415 => ?_
          refine W.regionT [(0, true), (1, true), (2, true), (3, true)] (by kernel_rfl) ?_
          refine Plan.move_int rfl rfl ?_
          refine Plan.move_slice rfl rfl ?_
          refine Plan.len FRef03.isl22 rfl rfl ?_
          refine Plan.cmpP (a := (((i_398 : Nat) : Int) : Int)) (b := (((key1.length : Nat) : Int) : Int)) (p := i_398 < key1.length) rfl rfl rfl rfl icmp_ltN ?_
          refine Plan.nil ?_
          refine hK415 _ _ ?_; clear hK415
          by_cases hc416 : i_398 < key1.length
          ·
            replace hR := ifT hR hc416
            refine W.condT (congrArg Value.bool (decide_eq_true hc416)) ?_
            refine W.regionT [(0, true), (1, true), (2, true), (3, true), (4, true), (5, true)] (by kernel_rfl) ?_
            refine Plan.move_slice rfl rfl ?_
            refine Plan.move_int rfl rfl ?_
            obtain ⟨hc417, hR⟩ := hR
            refine Plan.idxVS (j := i_398) h401 (hkey1.app [_]) FRef03.sl22 rfl rfl rfl hc417 ?_
            refine Plan.loadV (j := i_398) h401 (hkey1.app [_]) rfl rfl hc417 FRef03.sc5 fun r418 hr418 => ?_
            refine Plan.convN (a := (lit key1 i_398).toNat) FRef03.u3 FRef03.some5 rfl rfl (Nat.lt_of_lt_of_le (lit key1 i_398).isLt (by decide)) ?_
            refine Plan.assign_int rfl rfl ?_
            refine Plan.nil ?_
            exact ⟨out397, (lit key1 i_398).toNat, hR, aout397, pout397, cout397, Fout397, (EnvHas.cons rfl (EnvHas.cons rfl (EnvHas.cons rfl (EnvHas.cons rfl (EnvHas.cons rfl EnvHas.nil))))), h401, hout397⟩
          ·
            replace hR := ifF hR hc416
            refine W.condF (congrArg Value.bool (decide_eq_false hc416)) ?_
            refine W.skip ?_
            exact ⟨out397, 0, hR, aout397, pout397, cout397, Fout397, (EnvHas.cons rfl (EnvHas.cons rfl (EnvHas.cons rfl (EnvHas.cons rfl (EnvHas.cons rfl EnvHas.nil))))), h401, hout397⟩
        ·
          rintro ev419 wl419 ⟨y_out412, y_k413, ⟨hy419_0, hy419_1⟩, aout412, pout412, cout412, Fout412, he419, h419, hout412⟩
          subst hy419_0
          subst hy419_1
          obtain ⟨ev419, rfl⟩ := he419.open
          replace hR := hR0414
          refine hK407 _ _ ?_; clear hK407
          refine W.seq_k fun K420 hK420 => ?_
          refine W.regionT [(0, true)] (by kernel_rfl) ?_
          refine Plan.assign_int rfl rfl ?_
          refine Plan.nil ?_
          refine hK420 _ _ ?_; clear hK420
          refine W.seq_k fun K421 hK421 => ?_
          refine W.seq_k fun K422 hK422 => ?_
          refine W.regionT [(0, true)] (by kernel_rfl) ?_
          refine Plan.assign_int rfl rfl ?_
          refine Plan.nil ?_
          refine hK422 _ _ ?_; clear hK422
          obtain ⟨out452, n_453, hI454, hR0454⟩ := hR
          refine W.cutN (fun e w => ∃ y_out452 : List Byte, ∃ y_n_453 : Nat, (out452, n_453) = (y_out452, y_n_453) ∧ ∃ aout452 : Option Addr, ∃ pout452 : Option Nat, ∃ cout452 : Nat, ∃ Fout452 : Nat → Byte, EnvHas e [(0, .slice akey1 key1.length ckey1), (1, .int .i64 x_2), (5, .slice aout452 ((List.replicate 64 0#8).length) cout452), (7, VN i_398), (9, VN y_n_453)] ∧ St B w0 (⟨pout452, 0, cout452, fun q => VU .u8 (Fout452 q), true⟩ :: L) w ∧ Ow aout452 pout452 ((List.replicate 64 0#8).length) cout452 Fout452 y_out452) ?_ ?_
          ·
            refine W.block ?_
            refine W.iter hI454 (fun (s454 : ((List Byte) × Nat × Nat)) e w => ∃ aout449 : Option Addr, ∃ pout449 : Option Nat, ∃ cout449 : Nat, ∃ Fout449 : Nat → Byte, EnvHas e [(0, .slice akey1 key1.length ckey1), (1, .int .i64 x_2), (5, .slice aout449 ((List.replicate 64 0#8).length) cout449), (7, VN i_398), (8, VN k413), (9, VN s454.2.1), (10, VN s454.2.2)] ∧ St B w0 (⟨pout449, 0, cout449, fun q => VU .u8 (Fout449 q), true⟩ :: L) w ∧ Ow aout449 pout449 ((List.replicate 64 0#8).length) cout449 Fout449 s454.1) ⟨aout412, pout412, cout412, Fout412, (EnvHas.cons rfl (EnvHas.cons rfl (EnvHas.cons rfl (EnvHas.cons rfl (EnvHas.cons rfl (EnvHas.cons rfl (EnvHas.cons rfl EnvHas.nil))))))), h419, hout412⟩ ?_
            rintro ⟨out449, n_450, bit451⟩ o454 hR hx454 ev455 wl455 ⟨aout449, pout449, cout449, Fout449, he455, h455, hout449⟩
            obtain ⟨ev455, rfl⟩ := he455.open
            unfold letheref03_turned_l3 at hR
            refine W.seq_k fun K456 hK456 => ?_
            refine W.seq_k fun K457 hK457 => ?_
            refine W.regionT [(0, true), (1, true)] (by kernel_rfl) ?_
            refine Plan.move_int rfl rfl ?_
            refine Plan.cmpP (a := (((bit451 : Nat) : Int) : Int)) (b := (256 : Int)) (p := bit451 < 256) rfl rfl rfl rfl icmp_ltN ?_
            refine Plan.nil ?_
            refine hK457 _ _ ?_; clear hK457
            by_cases hc458 : bit451 < 256
            ·
              replace hR := ifT hR hc458
              refine W.condT (congrArg Value.bool (decide_eq_true hc458)) ?_
              refine W.skip ?_
              refine hK456 _ _ ?_; clear hK456
              refine W.seq_k fun K459 hK459 => ?_
              refine W.block ?_
              refine W.seq_k fun K460 hK460 => ?_
              refine W.regionD FRef03.mixed [(0, true), (1, true), (2, true), (3, true), (4, true), (5, true), (6, true), (7, true), (8, true)] (by kernel_rfl) ?_
              have h461 := h455.drew
              refine Plan.move_int rfl rfl ?_
              refine Plan.move_int rfl rfl ?_
              obtain ⟨hc462, hR⟩ := hR
              obtain ⟨hc463, hR⟩ := hR
              refine Plan.quoN (a := k413) (b := bit451) rfl rfl rfl (by omega) ?_
              refine Plan.remN (a := (k413 / bit451)) (b := 2) rfl rfl rfl (by omega) ?_
              refine Plan.move_int rfl rfl ?_
              refine Plan.move_int rfl rfl ?_
              obtain ⟨hc464, hR⟩ := hR
              obtain ⟨hc465, hR⟩ := hR
              refine Plan.quoIw (a := x_2) (b := ((bit451 : Nat) : Int)) rfl rfl rfl hc464 hc465 ?_
              have hb466 := tmod_bd (x_2.tdiv ((bit451 : Nat) : Int)) (c := 2) (by decide)
              refine Plan.remI (a := (x_2.tdiv ((bit451 : Nat) : Int))) (b := 2) rfl rfl rfl (by omega) ?_
              refine Plan.cmpP (a := (((((k413 / bit451) % 2) : Nat) : Int) : Int)) (b := (((x_2.tdiv ((bit451 : Nat) : Int)).tmod 2) : Int)) (p := ((((k413 / bit451) % 2) : Nat) : Int) ≠ ((x_2.tdiv ((bit451 : Nat) : Int)).tmod 2)) rfl rfl rfl rfl icmp_ne ?_
              refine Plan.nil ?_
              refine hK460 _ _ ?_; clear hK460
              by_cases hc467 : ((((k413 / bit451) % 2) : Nat) : Int) ≠ ((x_2.tdiv ((bit451 : Nat) : Int)).tmod 2)
              ·
                replace hR := ifT hR hc467
                refine W.condT (congrArg Value.bool (decide_eq_true hc467)) ?_
                refine W.regionT [(0, true), (1, true), (2, true), (3, true)] (by kernel_rfl) ?_
                refine Plan.move_int rfl rfl ?_
                refine Plan.move_int rfl rfl ?_
                obtain ⟨hc468, hR⟩ := hR
                refine Plan.addN (a := n_450) (b := bit451) rfl rfl rfl (by omega) ?_
                refine Plan.assign_int rfl rfl ?_
                refine Plan.nil ?_
                refine blockR_norm ?_
                refine hK459 _ _ ?_; clear hK459
                refine W.regionT [(0, true), (1, true), (2, true)] (by kernel_rfl) ?_
                refine Plan.move_int rfl rfl ?_
                refine Plan.mulN (a := bit451) (b := 2) rfl rfl rfl (by omega) ?_
                refine Plan.assign_int rfl rfl ?_
                refine Plan.nil ?_
                exact iterR_norm ⟨_, hR, aout449, pout449, cout449, Fout449, (EnvHas.cons rfl (EnvHas.cons rfl (EnvHas.cons rfl (EnvHas.cons rfl (EnvHas.cons rfl (EnvHas.cons rfl (EnvHas.cons rfl EnvHas.nil))))))), h461, hout449⟩
              ·
                replace hR := ifF hR hc467
                refine W.condF (congrArg Value.bool (decide_eq_false hc467)) ?_
                refine W.skip ?_
                refine blockR_norm ?_
                refine hK459 _ _ ?_; clear hK459
                refine W.regionT [(0, true), (1, true), (2, true)] (by kernel_rfl) ?_
                refine Plan.move_int rfl rfl ?_
                refine Plan.mulN (a := bit451) (b := 2) rfl rfl rfl (by omega) ?_
                refine Plan.assign_int rfl rfl ?_
                refine Plan.nil ?_
                exact iterR_norm ⟨_, hR, aout449, pout449, cout449, Fout449, (EnvHas.cons rfl (EnvHas.cons rfl (EnvHas.cons rfl (EnvHas.cons rfl (EnvHas.cons rfl (EnvHas.cons rfl (EnvHas.cons rfl EnvHas.nil))))))), h461, hout449⟩
            ·
              replace hR := ifF hR hc458
              refine W.condF (congrArg Value.bool (decide_eq_false hc458)) ?_
              refine W.exit (thenR_exit (iterR_exit (blockR_here ?_)))
              exact ⟨out449, n_450, (hx454 _ hR).symm, aout449, pout449, cout449, Fout449, (EnvHas.cons rfl (EnvHas.cons rfl (EnvHas.cons rfl (EnvHas.cons rfl (EnvHas.cons rfl EnvHas.nil))))), h455, hout449⟩
          ·
            rintro ev469 wl469 ⟨y_out452, y_n_453, hy469, aout452, pout452, cout452, Fout452, he469, h469, hout452⟩
            obtain ⟨ev469, rfl⟩ := he469.open
            cases hy469
            replace hR := hR0454
            refine hK421 _ _ ?_; clear hK421
            refine W.regionT [(0, true), (1, true), (2, true), (3, true), (4, true), (5, false)] (by kernel_rfl) ?_
            refine Plan.move_slice rfl rfl ?_
            refine Plan.move_int rfl rfl ?_
            refine Plan.move_int rfl rfl ?_
            refine Plan.convNU .u8 (a := n_453) FRef03.u5 FRef03.some3 rfl rfl ?_
            obtain ⟨hc470, hR⟩ := hR
            refine Plan.idxVS (j := i_398) h469 (hout452.bx 0 rfl) FRef03.sl22 rfl rfl rfl hc470 ?_
            refine Plan.storeO (j := i_398) (Y := (BitVec.ofNat 8 n_453)) h469 0 hout452 rfl rfl rfl rfl hc470 FRef03.sz5 rfl fun w471 F471 ho471 h471 => ?_
            simp only [List.cons_append, List.nil_append, List.set_cons_zero, List.set_cons_succ] at h471
            have e471 : (out452.set i_398 (BitVec.ofNat 8 n_453)).length = out452.length := List.length_set
            refine Plan.nil ?_
            refine blockR_norm ?_
            refine hK405 _ _ ?_; clear hK405
            refine W.regionT [(0, true), (1, true), (2, true)] (by kernel_rfl) ?_
            refine Plan.move_int rfl rfl ?_
            refine Plan.addN (a := i_398) (b := 1) rfl rfl rfl (by omega) ?_
            refine Plan.assign_int rfl rfl ?_
            refine Plan.nil ?_
            exact iterR_norm ⟨_, hR, aout452, pout452, cout452, F471, (EnvHas.cons rfl (EnvHas.cons rfl (EnvHas.cons rfl (EnvHas.cons rfl EnvHas.nil)))), h471, (show Ow _ _ ((List.replicate 64 0#8).length) _ _ _ from ho471)⟩
      ·
        replace hR := ifF hR hc404
        refine W.condF (congrArg Value.bool (decide_eq_false hc404)) ?_
        refine W.exit (thenR_exit (iterR_exit (blockR_here ?_)))
        exact ⟨out397, (hx400 _ hR).symm, aout397, pout397, cout397, Fout397, (EnvHas.cons rfl EnvHas.nil), h401, hout397⟩
    ·
      rintro ev472 wl472 ⟨y_out399, hy472, aout399, pout399, cout399, Fout399, he472, h472, hout399⟩
      obtain ⟨ev472, rfl⟩ := he472.open
      subst hy472
      replace hR := hR0400
      refine hK253 _ _ ?_; clear hK253
      refine W.seq_k fun K473 hK473 => ?_
      refine W.regionT [(0, true), (1, true)] (by kernel_rfl) ?_
      refine Plan.move_slice rfl rfl ?_
      refine Plan.assign_slice rfl rfl ?_
      refine Plan.nil ?_
      refine hK473 _ _ ?_; clear hK473
      refine W.ret (finR_ret ?_)
      subst r
      refine RetOk.mk (.tmp_slice rfl .nil) ?_
      exact ⟨aout399, pout399, (List.replicate 64 0#8).length, cout399, Fout399, rfl, h472, hout399⟩


set_option maxRecDepth 8000 in
set_option maxHeartbeats 1000000 in
theorem letheref03_Mac_ok {B : Nat} {w0 w : World} {L : List Rg} {iG2 : Nat} (hG2 : L[iG2]? = some ⟨some 2, 0, 64, fun q => VU .u64 (K64 q), false⟩) {iG3 : Nat} (hG3 : L[iG3]? = some ⟨some 3, 0, 8, fun q => VU .u64 (H64 q), false⟩) {key1 : List Byte} {akey1 : Option Addr} {nkey1 ckey1 ikey1 : Nat} (hkey1 : Bx L ikey1 akey1 nkey1 ckey1 key1) {text2 : List Byte} {atext2 : Option Addr} {ntext2 ctext2 itext2 : Nat} (htext2 : Bx L itext2 atext2 ntext2 ctext2 text2) {r : (Nat → BitVec 8)} (hR : letheref03_Mac key1 text2 r) (HST : St B w0 (L) w) :
    Calls Tryd.prog 58 #[.slice akey1 nkey1 ckey1, .slice atext2 ntext2 ctext2] w fun e w' => e = .returned (AG [(32, fun q => VU .u8 (r q))]) ∧ St B w0 (L) w' := by
  refine W.enter 18 Tryd.func58 rfl rfl rfl ?_
  unfold letheref03_Mac at hR
  have ekey1 := hkey1.hl; subst ekey1
  have etext2 := htext2.hl; subst etext2
  refine W.seq_k fun K3 hK3 => ?_
  refine W.regionT [(0, false)] (by kernel_rfl) ?_
  refine Plan.alloc HST rfl FRef03.z31 PIn.nil fun b4 w4 hb4 h4 => ?_
  simp only [rngs, Nat.zero_add, Nat.reduceAdd, List.cons_append, List.nil_append] at h4
  refine Plan.nil ?_
  refine hK3 _ _ ?_; clear hK3
  refine W.seq_k fun K5 hK5 => ?_
  refine W.regionT [(0, true), (1, false), (2, true), (3, false), (4, false), (5, false), (6, false), (7, false)] (by kernel_rfl) ?_
  refine Plan.move_slice rfl rfl ?_
  obtain ⟨x_7, hr6, hR⟩ := hR
  refine Plan.call (vs := [.slice akey1 key1.length ckey1, VN 54]) rfl FRef03.call74 rfl (letheref03_turned_ok (iG2 := iG2 + 1) hG2 (iG3 := iG3 + 1) hG3 (hkey1.app [_]) hr6 h4) ?_
  rintro _ w13 ⟨ay0_8, py0_9, ny0_10, cy0_11, Fy0_12, rfl, h13, hf13_0⟩
  obtain rfl := hf13_0.hl
  refine ⟨_, rfl, .inl ⟨PIn.keep PIn.nil h13, ?_⟩⟩
  refine Plan.move_slice rfl rfl ?_
  refine Plan.buildSlice h13 (ps := [(2, fun i => .slice ((fun i => ([ay0_8, atext2] : List (Option Addr)).getD i none) i) ((fun i => ([x_7.length, text2.length] : List Nat).getD i 0) i) ((fun i => ([cy0_11, ctext2] : List Nat).getD i 0) i))]) FRef03.slu75 FRef03.sz22 FRef03.zv22 (by decide) (by decide) rfl rfl rfl (EffO.keep PIn.nil) fun b15 w15 hb15 h15 => ?_
  simp only [rngs, List.cons_append, List.nil_append] at h15
  obtain ⟨x_17, hr16, hR⟩ := hR
  refine Plan.call (vs := [.slice (some ⟨b15, 0, none⟩) 2 2]) rfl FRef03.call59 rfl (letheref03_Joined_ok (by exact (Bss.of 0 rfl rfl (fun i hi => match i, hi with | 0, _ => ⟨_, (hf13_0.bx 1 rfl)⟩ | 1, _ => ⟨_, (htext2.app [_, _, _])⟩ | k + 2, hk => absurd hk (by omega)))) hr16 h15) ?_
  rintro _ w23 ⟨ay0_18, py0_19, ny0_20, cy0_21, Fy0_22, rfl, h23, hf23_0⟩
  obtain rfl := hf23_0.hl
  refine ⟨_, rfl, .inl ⟨PIn.keep PIn.nil h23, ?_⟩⟩
  obtain ⟨x_25, hr24, hR⟩ := hR
  refine Plan.call (vs := [.slice ay0_18 x_17.length cy0_21]) rfl FRef03.call53 rfl (letheref02_Sum_ok (iG2 := iG2 + 4) hG2 (iG3 := iG3 + 4) hG3 (by exact (hf23_0.bx 0 rfl)) hr24 h23) ?_
  rintro _ w26 ⟨rfl, h26⟩
  refine ⟨_, rfl, .inl ⟨PIn.keep PIn.nil h26, ?_⟩⟩
  refine Plan.alloc h26 rfl FRef03.z31 PIn.nil fun b27 w27 hb27 h27 => ?_
  simp only [rngs, Nat.zero_add, Nat.reduceAdd, List.cons_append, List.nil_append] at h27
  refine Plan.storeA (f' := fun q => VU .u8 (x_25 q)) h27 0 rfl rfl rfl rfl (fun _ _ => rfl) FRef03.sz31 rfl fun w28 h28 => ?_
  simp only [List.cons_append, List.nil_append, List.set_cons_zero, List.set_cons_succ] at h28
  refine Plan.nil ?_
  refine hK5 _ _ ?_; clear hK5
  refine W.seq_k fun K29 hK29 => ?_
  refine W.regionD FRef03.mixed [(0, true), (2, true), (1, false), (3, false), (4, false), (5, false), (6, false)] (by kernel_rfl) ?_
  have h30 := h28.drew
  refine Plan.move_slice rfl rfl ?_
  refine Plan.slArrO (lo := 0) (hi := 32) (m := 32) (c := 32) (o' := 0) FRef03.arr31 rfl rfl rfl rfl (by omega) (by omega) (by omega) (by omega) ?_
  obtain ⟨x_32, hr31, hR⟩ := hR
  refine Plan.call (vs := [.slice akey1 key1.length ckey1, VN 92]) rfl FRef03.call74 rfl (letheref03_turned_ok (iG2 := iG2 + 5) hG2 (iG3 := iG3 + 5) hG3 (hkey1.app [_, _, _, _, _]) hr31 h30) ?_
  rintro _ w38 ⟨ay0_33, py0_34, ny0_35, cy0_36, Fy0_37, rfl, h38, hf38_0⟩
  obtain rfl := hf38_0.hl
  refine ⟨_, rfl, .inl ⟨PIn.keep PIn.nil h38, ?_⟩⟩
  refine Plan.buildSlice h38 (ps := [(2, fun i => .slice ((fun i => ([ay0_33, some ⟨b27, 0, none⟩] : List (Option Addr)).getD i none) i) ((fun i => ([x_32.length, 32] : List Nat).getD i 0) i) ((fun i => ([cy0_36, 32] : List Nat).getD i 0) i))]) FRef03.slu75 FRef03.sz22 FRef03.zv22 (by decide) (by decide) rfl rfl rfl (EffO.keep PIn.nil) fun b40 w40 hb40 h40 => ?_
  simp only [rngs, List.cons_append, List.nil_append] at h40
  obtain ⟨x_42, hr41, hR⟩ := hR
  refine Plan.call (vs := [.slice (some ⟨b40, 0, none⟩) 2 2]) rfl FRef03.call59 rfl (letheref03_Joined_ok (by exact (Bss.of 0 rfl rfl (fun i hi => match i, hi with | 0, _ => ⟨_, (hf38_0.bx 1 rfl)⟩ | 1, _ => ⟨_, (Bx.arr0 (n := 32) (cc := 32) 2 rfl (by omega) (by omega))⟩ | k + 2, hk => absurd hk (by omega)))) hr41 h40) ?_
  rintro _ w48 ⟨ay0_43, py0_44, ny0_45, cy0_46, Fy0_47, rfl, h48, hf48_0⟩
  obtain rfl := hf48_0.hl
  refine ⟨_, rfl, .inl ⟨PIn.keep PIn.nil h48, ?_⟩⟩
  obtain ⟨x_50, hr49, hR⟩ := hR
  refine Plan.call (vs := [.slice ay0_43 x_42.length cy0_46]) rfl FRef03.call53 rfl (letheref02_Sum_ok (iG2 := iG2 + 8) hG2 (iG3 := iG3 + 8) hG3 (by exact (hf48_0.bx 0 rfl)) hr49 h48) ?_
  rintro _ w51 ⟨rfl, h51⟩
  refine ⟨_, rfl, .inl ⟨PIn.keep PIn.nil h51, ?_⟩⟩
  refine Plan.storeA (f' := fun q => VU .u8 (x_50 q)) h51 7 rfl rfl rfl rfl (fun _ _ => rfl) FRef03.sz31 rfl fun w52 h52 => ?_
  simp only [List.cons_append, List.nil_append, List.set_cons_zero, List.set_cons_succ] at h52
  refine Plan.nil ?_
  refine hK29 _ _ ?_; clear hK29
  refine W.ret (finR_ret ?_)
  have h53 := St.pickT (C := [_, _, _, _, _, _, _, _]) h52 [] (by decide)
  simp only [pick, List.filterMap_cons, List.filterMap_nil, List.getElem?_cons_zero, List.getElem?_cons_succ, List.cons_append, List.nil_append] at h53
  subst r
  refine RetOk.mk (.agg h52 rfl (.cons 7 rfl .nil) FRef03.agg31 .nil) ?_
  exact ⟨rfl, h53⟩


set_option maxRecDepth 8000 in
set_option maxHeartbeats 1000000 in
theorem letheref03_Extract_ok {B : Nat} {w0 w : World} {L : List Rg} {iG2 : Nat} (hG2 : L[iG2]? = some ⟨some 2, 0, 64, fun q => VU .u64 (K64 q), false⟩) {iG3 : Nat} (hG3 : L[iG3]? = some ⟨some 3, 0, 8, fun q => VU .u64 (H64 q), false⟩) {salt1 : List Byte} {asalt1 : Option Addr} {nsalt1 csalt1 isalt1 : Nat} (hsalt1 : Bx L isalt1 asalt1 nsalt1 csalt1 salt1) {key2 : List Byte} {akey2 : Option Addr} {nkey2 ckey2 ikey2 : Nat} (hkey2 : Bx L ikey2 akey2 nkey2 ckey2 key2) {r : (Nat → BitVec 8)} (hR : letheref03_Extract salt1 key2 r) (HST : St B w0 (L) w) :
    Calls Tryd.prog 60 #[.slice asalt1 nsalt1 csalt1, .slice akey2 nkey2 ckey2] w fun e w' => e = .returned (AG [(32, fun q => VU .u8 (r q))]) ∧ St B w0 (L) w' := by
  refine W.enter 8 Tryd.func60 rfl rfl rfl ?_
  unfold letheref03_Extract at hR
  have esalt1 := hsalt1.hl; subst esalt1
  have ekey2 := hkey2.hl; subst ekey2
  refine W.seq_k fun K3 hK3 => ?_
  refine W.regionT [(0, false)] (by kernel_rfl) ?_
  refine Plan.alloc HST rfl FRef03.z31 PIn.nil fun b4 w4 hb4 h4 => ?_
  simp only [rngs, Nat.zero_add, Nat.reduceAdd, List.cons_append, List.nil_append] at h4
  refine Plan.nil ?_
  refine hK3 _ _ ?_; clear hK3
  refine W.seq_k fun K5 hK5 => ?_
  refine W.regionT [(0, true), (1, true), (2, false), (3, false)] (by kernel_rfl) ?_
  refine Plan.move_slice rfl rfl ?_
  refine Plan.move_slice rfl rfl ?_
  obtain ⟨x_7, hr6, hR⟩ := hR
  refine Plan.call (vs := [.slice asalt1 salt1.length csalt1, .slice akey2 key2.length ckey2]) rfl FRef03.call58 rfl (letheref03_Mac_ok (iG2 := iG2 + 1) hG2 (iG3 := iG3 + 1) hG3 (hsalt1.app [_]) (hkey2.app [_]) hr6 h4) ?_
  rintro _ w8 ⟨rfl, h8⟩
  refine ⟨_, rfl, .inl ⟨PIn.keep PIn.nil h8, ?_⟩⟩
  refine Plan.storeA (f' := fun q => VU .u8 (x_7 q)) h8 0 rfl rfl rfl rfl (fun _ _ => rfl) FRef03.sz31 rfl fun w9 h9 => ?_
  simp only [List.cons_append, List.nil_append, List.set_cons_zero, List.set_cons_succ] at h9
  refine Plan.nil ?_
  refine hK5 _ _ ?_; clear hK5
  refine W.ret (finR_ret ?_)
  have h10 := St.pickT (C := [_]) h9 [] (by decide)
  simp only [pick, List.filterMap_cons, List.filterMap_nil, List.getElem?_cons_zero, List.getElem?_cons_succ, List.cons_append, List.nil_append] at h10
  subst r
  refine RetOk.mk (.agg h9 rfl (.cons 0 rfl .nil) FRef03.agg31 .nil) ?_
  exact ⟨rfl, h10⟩


set_option maxRecDepth 8000 in
set_option maxHeartbeats 1000000 in
theorem letheref03_Expand_ok {B : Nat} {w0 w : World} {L : List Rg} {iG2 : Nat} (hG2 : L[iG2]? = some ⟨some 2, 0, 64, fun q => VU .u64 (K64 q), false⟩) {iG3 : Nat} (hG3 : L[iG3]? = some ⟨some 3, 0, 8, fun q => VU .u64 (H64 q), false⟩) {prk1 : List Byte} {aprk1 : Option Addr} {nprk1 cprk1 iprk1 : Nat} (hprk1 : Bx L iprk1 aprk1 nprk1 cprk1 prk1) {info2 : List Byte} {ainfo2 : Option Addr} {ninfo2 cinfo2 iinfo2 : Nat} (hinfo2 : Bx L iinfo2 ainfo2 ninfo2 cinfo2 info2) {n_3 : Int} {r : ((List Byte) × Nat) ⊕ ((List Byte) × Nat)} (hR : letheref03_Expand prk1 info2 n_3 r) (HST : St B w0 (L) w) :
    Calls Tryd.prog 75 #[.slice aprk1 nprk1 cprk1, .slice ainfo2 ninfo2 cinfo2, .int .i64 n_3] w fun e w' => match r with | .inl z => ∃ ay0 : Option Addr, ∃ py0 : Option Nat, ∃ ny0 : Nat, ∃ cy0 : Nat, ∃ Fy0 : Nat → Byte, e = .returned (.tuple #[.slice ay0 ny0 cy0, VN z.2]) ∧ St B w0 (⟨py0, 0, cy0, fun q => VU .u8 (Fy0 q), true⟩ :: L) w' ∧ Ow ay0 py0 ny0 cy0 Fy0 z.1 | .inr z => ∃ ry0 : Rg, ∃ ay0 : Option Addr, ∃ ny0 : Nat, ∃ cy0 : Nat, e = .returned (.tuple #[.slice ay0 ny0 cy0, VN z.2]) ∧ St B w0 (ry0 :: L) w' ∧ Bx (ry0 :: L) 0 ay0 ny0 cy0 z.1 := by
  refine W.enter 38 Tryd.func75 rfl rfl rfl ?_
  unfold letheref03_Expand at hR
  have eprk1 := hprk1.hl; subst eprk1
  have einfo2 := hinfo2.hl; subst einfo2
  refine W.seq_k fun K4 hK4 => ?_
  refine W.regionT [(0, true), (1, true)] (by kernel_rfl) ?_
  refine Plan.assign_slice rfl rfl ?_
  refine Plan.assign_int rfl rfl ?_
  refine Plan.nil ?_
  refine hK4 _ _ ?_; clear hK4
  refine W.seq_k fun K5 hK5 => ?_
  refine W.seq_k fun K6 hK6 => ?_
  refine W.regionT [(0, true), (1, true)] (by kernel_rfl) ?_
  refine Plan.move_int rfl rfl ?_
  refine Plan.cmpP (a := (n_3 : Int)) (b := (0 : Int)) (p := n_3 < 0) rfl rfl rfl rfl icmp_lt ?_
  refine Plan.nil ?_
  refine hK6 _ _ ?_; clear hK6
  by_cases hc7 : n_3 < 0
  ·
    replace hR := ifT hR hc7
    refine W.condT (congrArg Value.bool (decide_eq_true hc7)) ?_
    refine W.seq_k fun K8 hK8 => ?_
    refine W.regionT [(0, true), (1, true)] (by kernel_rfl) ?_
    refine Plan.assign_slice rfl rfl ?_
    refine Plan.assign_int rfl rfl ?_
    refine Plan.nil ?_
    refine hK8 _ _ ?_; clear hK8
    refine W.ret (thenR_ret (finR_ret ?_))
    have h9 := HST.nilR
    subst r
    refine RetOk.mk (.tmp_slice rfl (.tmp_int rfl .nil)) ?_
    exact ⟨none, none, 0, 0, (fun _ => 0#8), rfl, h9, Ow.nil⟩
  ·
    replace hR := ifF hR hc7
    refine W.condF (congrArg Value.bool (decide_eq_false hc7)) ?_
    refine W.skip ?_
    refine hK5 _ _ ?_; clear hK5
    refine W.seq_k fun K10 hK10 => ?_
    refine W.seq_k fun K11 hK11 => ?_
    refine W.regionT [(0, true), (1, true)] (by kernel_rfl) ?_
    refine Plan.move_int rfl rfl ?_
    refine Plan.cmpP (a := (n_3 : Int)) (b := (8160 : Int)) (p := 8160 < n_3) rfl rfl rfl rfl icmp_gt ?_
    refine Plan.nil ?_
    refine hK11 _ _ ?_; clear hK11
    by_cases hc12 : 8160 < n_3
    ·
      replace hR := ifT hR hc12
      refine W.condT (congrArg Value.bool (decide_eq_true hc12)) ?_
      refine W.seq_k fun K13 hK13 => ?_
      refine W.regionT [(0, true), (1, true)] (by kernel_rfl) ?_
      refine Plan.assign_slice rfl rfl ?_
      refine Plan.assign_int rfl rfl ?_
      refine Plan.nil ?_
      refine hK13 _ _ ?_; clear hK13
      refine W.ret (thenR_ret (finR_ret ?_))
      have h14 := HST.nilR
      subst r
      refine RetOk.mk (.tmp_slice rfl (.tmp_int rfl .nil)) ?_
      exact ⟨none, none, 0, 0, (fun _ => 0#8), rfl, h14, Ow.nil⟩
    ·
      replace hR := ifF hR hc12
      refine W.condF (congrArg Value.bool (decide_eq_false hc12)) ?_
      refine W.skip ?_
      refine hK10 _ _ ?_; clear hK10
      refine W.seq_k fun K15 hK15 => ?_
      refine W.regionT [(0, true)] (by kernel_rfl) ?_
      refine Plan.assign_slice rfl rfl ?_
      refine Plan.nil ?_
      refine hK15 _ _ ?_; clear hK15
      refine W.seq_k fun K16 hK16 => ?_
      refine W.regionT [(0, true)] (by kernel_rfl) ?_
      refine Plan.assign_slice rfl rfl ?_
      refine Plan.nil ?_
      refine hK16 _ _ ?_; clear hK16
      refine W.seq_k fun K17 hK17 => ?_
      refine W.seq_k fun K18 hK18 => ?_
      refine W.regionT [(0, true)] (by kernel_rfl) ?_
      refine Plan.assign_int rfl rfl ?_
      refine Plan.nil ?_
      refine hK18 _ _ ?_; clear hK18
      have h80 := HST.nilR
      have h81 := h80.nilR
      obtain ⟨out78, hI79, hR079⟩ := hR
      refine W.cutN (fun e w => ∃ y_out78 : List Byte, out78 = y_out78 ∧ ∃ aout78 : Option Addr, ∃ pout78 : Option Nat, ∃ cout78 : Nat, ∃ Fout78 : Nat → Byte, EnvHas e [(2, .int .i64 n_3), (8, .slice aout78 y_out78.length cout78)] ∧ St B w0 (⟨pout78, 0, cout78, fun q => VU .u8 (Fout78 q), true⟩ :: L) w ∧ Ow aout78 pout78 y_out78.length cout78 Fout78 y_out78) ?_ ?_
      ·
        refine W.block ?_
        have h82 := St.pickT (C := [_, _]) h81 [1, 0] (by decide)
        simp only [pick, List.filterMap_cons, List.filterMap_nil, List.getElem?_cons_zero, List.getElem?_cons_succ, List.cons_append, List.nil_append] at h82
        refine W.iter hI79 (fun (s79 : ((List Byte) × (List Byte) × Nat)) e w => ∃ aout73 : Option Addr, ∃ pout73 : Option Nat, ∃ cout73 : Nat, ∃ Fout73 : Nat → Byte, ∃ at75 : Option Addr, ∃ pt75 : Option Nat, ∃ ct75 : Nat, ∃ Ft75 : Nat → Byte, EnvHas e [(0, .slice aprk1 prk1.length cprk1), (1, .slice ainfo2 info2.length cinfo2), (2, .int .i64 n_3), (8, .slice aout73 s79.1.length cout73), (9, .slice at75 s79.2.1.length ct75), (10, VN s79.2.2)] ∧ St B w0 (⟨pout73, 0, cout73, fun q => VU .u8 (Fout73 q), true⟩ :: ⟨pt75, 0, ct75, fun q => VU .u8 (Ft75 q), true⟩ :: L) w ∧ Ow aout73 pout73 s79.1.length cout73 Fout73 s79.1 ∧ Ow at75 pt75 s79.2.1.length ct75 Ft75 s79.2.1) ⟨none, none, 0, (fun _ => 0#8), none, none, 0, (fun _ => 0#8), (EnvHas.cons rfl (EnvHas.cons rfl (EnvHas.cons rfl (EnvHas.cons rfl (EnvHas.cons rfl (EnvHas.cons rfl EnvHas.nil)))))), h82, Ow.nil, Ow.nil⟩ ?_
        rintro ⟨out73, t75, i_77⟩ o79 hR hx79 ev83 wl83 ⟨aout73, pout73, cout73, Fout73, at75, pt75, ct75, Ft75, he83, h83, hout73, ht75⟩
        obtain ⟨ev83, rfl⟩ := he83.open
        unfold letheref03_Expand_l0 at hR
        refine W.seq_k fun K84 hK84 => ?_
        refine W.seq_k fun K85 hK85 => ?_
        refine W.regionT [(0, true), (1, true), (2, true), (3, true)] (by kernel_rfl) ?_
        refine Plan.move_slice rfl rfl ?_
        refine Plan.len FRef03.isl22 rfl rfl ?_
        refine Plan.move_int rfl rfl ?_
        refine Plan.cmpP (a := (((out73.length : Nat) : Int) : Int)) (b := (n_3 : Int)) (p := ((out73.length : Nat) : Int) < n_3) rfl rfl rfl rfl icmp_lt ?_
        refine Plan.nil ?_
        refine hK85 _ _ ?_; clear hK85
        by_cases hc86 : ((out73.length : Nat) : Int) < n_3
        ·
          replace hR := ifT hR hc86
          refine W.condT (congrArg Value.bool (decide_eq_true hc86)) ?_
          refine W.skip ?_
          refine hK84 _ _ ?_; clear hK84
          refine W.seq_k fun K87 hK87 => ?_
          refine W.block ?_
          refine W.seq_k fun K88 hK88 => ?_
          refine W.regionT [(0, true), (1, true), (2, true), (3, true), (4, true), (5, false), (6, false), (7, false), (8, false), (9, false), (10, false)] (by kernel_rfl) ?_
          refine Plan.move_slice rfl rfl ?_
          refine Plan.move_slice rfl rfl ?_
          refine Plan.move_slice rfl rfl ?_
          refine Plan.move_int rfl rfl ?_
          refine Plan.convNU .u8 (a := i_77) FRef03.u5 FRef03.some3 rfl rfl ?_
          refine Plan.buildSlice h83 (ps := [(1, fun q => VU .u8 (lit ([(BitVec.ofNat 8 i_77)] : List Byte) q))]) FRef03.slu22 FRef03.sz5 FRef03.zv5 (by decide) (by decide) rfl rfl rfl (EffO.keep PIn.nil) fun b89 w89 hb89 h89 => ?_
          simp only [rngs, List.cons_append, List.nil_append] at h89
          have ho89 : Ow (some ⟨b89, 0, none⟩) (some b89) ([(BitVec.ofNat 8 i_77)] : List Byte).length 1 (lit ([(BitVec.ofNat 8 i_77)] : List Byte)) ([(BitVec.ofNat 8 i_77)] : List Byte) := ⟨.inr ⟨b89, rfl, rfl⟩, Nat.le_refl _, rfl, fun q _ => rfl⟩
          refine Plan.buildSlice h89 (ps := [(3, fun i => .slice ((fun i => ([at75, ainfo2, some ⟨b89, 0, none⟩] : List (Option Addr)).getD i none) i) ((fun i => ([t75.length, info2.length, ([(BitVec.ofNat 8 i_77)] : List Byte).length] : List Nat).getD i 0) i) ((fun i => ([ct75, cinfo2, 1] : List Nat).getD i 0) i))]) FRef03.slu75 FRef03.sz22 FRef03.zv22 (by decide) (by decide) rfl rfl rfl (EffO.keep PIn.nil) fun b91 w91 hb91 h91 => ?_
          simp only [rngs, List.cons_append, List.nil_append] at h91
          obtain ⟨x_93, hr92, hR⟩ := hR
          refine Plan.call (vs := [.slice (some ⟨b91, 0, none⟩) 3 3]) rfl FRef03.call59 rfl (letheref03_Joined_ok (by exact (Bss.of 0 rfl rfl (fun i hi => match i, hi with | 0, _ => ⟨_, (ht75.bx 3 rfl)⟩ | 1, _ => ⟨_, (hinfo2.app [_, _, _, _])⟩ | 2, _ => ⟨_, (ho89.bx 1 rfl)⟩ | k + 3, hk => absurd hk (by omega)))) hr92 h91) ?_
          rintro _ w99 ⟨ay0_94, py0_95, ny0_96, cy0_97, Fy0_98, rfl, h99, hf99_0⟩
          obtain rfl := hf99_0.hl
          refine ⟨_, rfl, .inl ⟨PIn.keep PIn.nil h99, ?_⟩⟩
          obtain ⟨x_101, hr100, hR⟩ := hR
          refine Plan.call (vs := [.slice aprk1 prk1.length cprk1, .slice ay0_94 x_93.length cy0_97]) rfl FRef03.call58 rfl (letheref03_Mac_ok (iG2 := iG2 + 5) hG2 (iG3 := iG3 + 5) hG3 (hprk1.app [_, _, _, _, _]) (by exact (hf99_0.bx 0 rfl)) hr100 h99) ?_
          rintro _ w102 ⟨rfl, h102⟩
          refine ⟨_, rfl, .inl ⟨PIn.keep PIn.nil h102, ?_⟩⟩
          refine Plan.alloc h102 rfl FRef03.z31 PIn.nil fun b103 w103 hb103 h103 => ?_
          simp only [rngs, Nat.zero_add, Nat.reduceAdd, List.cons_append, List.nil_append] at h103
          refine Plan.storeA (f' := fun q => VU .u8 (x_101 q)) h103 0 rfl rfl rfl rfl (fun _ _ => rfl) FRef03.sz31 rfl fun w104 h104 => ?_
          simp only [List.cons_append, List.nil_append, List.set_cons_zero, List.set_cons_succ] at h104
          refine Plan.nil ?_
          refine hK88 _ _ ?_; clear hK88
          refine W.seq_k fun K105 hK105 => ?_
          refine W.regionT [(0, true), (1, true)] (by kernel_rfl) ?_
          refine Plan.slArrO (lo := 0) (hi := 32) (m := 32) (c := 32) (o' := 0) FRef03.arr31 rfl rfl rfl rfl (by omega) (by omega) (by omega) (by omega) ?_
          refine Plan.assign_slice rfl rfl ?_
          refine Plan.nil ?_
          refine hK105 _ _ ?_; clear hK105
          refine W.regionT [(0, true), (1, true), (2, false), (3, true)] (by kernel_rfl) ?_
          refine Plan.move_slice rfl rfl ?_
          refine Plan.slArrO (lo := 0) (hi := 32) (m := 32) (c := 32) (o' := 0) FRef03.arr31 rfl rfl rfl rfl (by omega) (by omega) (by omega) (by omega) ?_
          obtain ⟨hc107, hR⟩ := hR
          refine Plan.appendO (X := out73) (Y := (dl 32 x_101)) h104 4 hout73 FRef03.el22 FRef03.sl22 rfl rfl rfl rfl (Bx.arr0 (n := 32) (cc := 32) 0 rfl (by omega) (by omega)) hc107 (fun _ => EffO.keep PIn.nil) fun a106 pb106 cap106 F106 w106 ho106 h106 => ?_
          simp only [List.cons_append, List.nil_append, List.set_cons_zero, List.set_cons_succ] at h106
          refine Plan.assign_slice rfl rfl ?_
          refine Plan.nil ?_
          refine blockR_norm ?_
          refine hK87 _ _ ?_; clear hK87
          refine W.regionT [(0, true), (1, true), (2, true)] (by kernel_rfl) ?_
          refine Plan.move_int rfl rfl ?_
          obtain ⟨hc108, hR⟩ := hR
          refine Plan.addN (a := i_77) (b := 1) rfl rfl rfl (by omega) ?_
          refine Plan.assign_int rfl rfl ?_
          refine Plan.nil ?_
          have h109 := St.pickT (C := [_, _, _, _, _, _]) h106 [4, 0] (by decide)
          simp only [pick, List.filterMap_cons, List.filterMap_nil, List.getElem?_cons_zero, List.getElem?_cons_succ, List.cons_append, List.nil_append] at h109
          exact iterR_norm ⟨_, hR, a106, pb106, cap106, F106, some ⟨b103, 0, none⟩, some b103, 32, x_101, (EnvHas.cons rfl (EnvHas.cons rfl (EnvHas.cons rfl (EnvHas.cons rfl (EnvHas.cons rfl (EnvHas.cons rfl EnvHas.nil)))))), h109, ho106, Ow.arr⟩
        ·
          replace hR := ifF hR hc86
          refine W.condF (congrArg Value.bool (decide_eq_false hc86)) ?_
          refine W.exit (thenR_exit (iterR_exit (blockR_here ?_)))
          have h110 := St.pickT (C := [_, _]) h83 [0] (by decide)
          simp only [pick, List.filterMap_cons, List.filterMap_nil, List.getElem?_cons_zero, List.getElem?_cons_succ, List.cons_append, List.nil_append] at h110
          exact ⟨out73, (hx79 _ hR).symm, aout73, pout73, cout73, Fout73, (EnvHas.cons rfl (EnvHas.cons rfl EnvHas.nil)), h110, hout73⟩
      ·
        rintro ev111 wl111 ⟨y_out78, hy111, aout78, pout78, cout78, Fout78, he111, h111, hout78⟩
        obtain ⟨ev111, rfl⟩ := he111.open
        subst hy111
        replace hR := hR079
        refine hK17 _ _ ?_; clear hK17
        refine W.seq_k fun K112 hK112 => ?_
        refine W.regionT [(0, true), (1, true), (2, true), (3, true), (4, true)] (by kernel_rfl) ?_
        refine Plan.move_slice rfl rfl ?_
        refine Plan.move_int rfl rfl ?_
        obtain ⟨hc113, hR⟩ := hR
        obtain ⟨hc114, hR⟩ := hR
        have hm115 := hout78.hc
        refine Plan.slSl (lo := 0) (hi := n_3.toNat) FRef03.sl22 rfl rfl rfl ⟨_, congrArg (Value.int .i64) (Int.toNat_of_nonneg hc113).symm⟩ (by omega) ?_
        refine Plan.assign_slice rfl rfl ?_
        refine Plan.assign_int rfl rfl ?_
        refine Plan.nil ?_
        refine hK112 _ _ ?_; clear hK112
        refine W.ret (finR_ret ?_)
        subst r
        refine RetOk.mk (.tmp_slice rfl (.tmp_int rfl .nil)) ?_
        exact ⟨⟨pout78, 0, cout78, fun q => VU .u8 (Fout78 q), true⟩, (if cout78 = 0 then (aout78 : Option Addr) else (aout78 : Option Addr).map (·.add (0 * 1))), (n_3.toNat - 0), (cout78 - 0), rfl, h111, ((hout78.bx 0 rfl).seg (lo := 0) (hi := n_3.toNat) hc114)⟩


set_option maxRecDepth 8000 in
set_option maxHeartbeats 1000000 in
theorem letheref03_Derive_ok {B : Nat} {w0 w : World} {L : List Rg} {iG2 : Nat} (hG2 : L[iG2]? = some ⟨some 2, 0, 64, fun q => VU .u64 (K64 q), false⟩) {iG3 : Nat} (hG3 : L[iG3]? = some ⟨some 3, 0, 8, fun q => VU .u64 (H64 q), false⟩) {salt1 : List Byte} {asalt1 : Option Addr} {nsalt1 csalt1 isalt1 : Nat} (hsalt1 : Bx L isalt1 asalt1 nsalt1 csalt1 salt1) {key2 : List Byte} {akey2 : Option Addr} {nkey2 ckey2 ikey2 : Nat} (hkey2 : Bx L ikey2 akey2 nkey2 ckey2 key2) {info3 : List Byte} {ainfo3 : Option Addr} {ninfo3 cinfo3 iinfo3 : Nat} (hinfo3 : Bx L iinfo3 ainfo3 ninfo3 cinfo3 info3) {n_4 : Int} {r : ((List Byte) × Nat) ⊕ ((List Byte) × Nat)} (hR : letheref03_Derive salt1 key2 info3 n_4 r) (HST : St B w0 (L) w) :
    Calls Tryd.prog 64 #[.slice asalt1 nsalt1 csalt1, .slice akey2 nkey2 ckey2, .slice ainfo3 ninfo3 cinfo3, .int .i64 n_4] w fun e w' => match r with | .inl z => ∃ ay0 : Option Addr, ∃ py0 : Option Nat, ∃ ny0 : Nat, ∃ cy0 : Nat, ∃ Fy0 : Nat → Byte, e = .returned (.tuple #[.slice ay0 ny0 cy0, VN z.2]) ∧ St B w0 (⟨py0, 0, cy0, fun q => VU .u8 (Fy0 q), true⟩ :: L) w' ∧ Ow ay0 py0 ny0 cy0 Fy0 z.1 | .inr z => ∃ ry0 : Rg, ∃ ay0 : Option Addr, ∃ ny0 : Nat, ∃ cy0 : Nat, e = .returned (.tuple #[.slice ay0 ny0 cy0, VN z.2]) ∧ St B w0 (ry0 :: L) w' ∧ Bx (ry0 :: L) 0 ay0 ny0 cy0 z.1 := by
  refine W.enter 20 Tryd.func64 rfl rfl rfl ?_
  unfold letheref03_Derive at hR
  have esalt1 := hsalt1.hl; subst esalt1
  have ekey2 := hkey2.hl; subst ekey2
  have einfo3 := hinfo3.hl; subst einfo3
  refine W.seq_k fun K5 hK5 => ?_
  refine W.regionT [(0, true), (1, true)] (by kernel_rfl) ?_
  refine Plan.assign_slice rfl rfl ?_
  refine Plan.assign_int rfl rfl ?_
  refine Plan.nil ?_
  refine hK5 _ _ ?_; clear hK5
  refine W.seq_k fun K6 hK6 => ?_
  refine W.regionT [(0, true), (1, true), (2, false), (3, false), (4, false)] (by kernel_rfl) ?_
  refine Plan.move_slice rfl rfl ?_
  refine Plan.move_slice rfl rfl ?_
  obtain ⟨x_8, hr7, hR⟩ := hR
  refine Plan.call (vs := [.slice asalt1 salt1.length csalt1, .slice akey2 key2.length ckey2]) rfl FRef03.call60 rfl (letheref03_Extract_ok (iG2 := iG2 + 0) hG2 (iG3 := iG3 + 0) hG3 hsalt1 hkey2 hr7 HST) ?_
  rintro _ w9 ⟨rfl, h9⟩
  refine ⟨_, rfl, .inl ⟨PIn.keep PIn.nil h9, ?_⟩⟩
  refine Plan.alloc h9 rfl FRef03.z31 PIn.nil fun b10 w10 hb10 h10 => ?_
  simp only [rngs, Nat.zero_add, Nat.reduceAdd, List.cons_append, List.nil_append] at h10
  refine Plan.storeA (f' := fun q => VU .u8 (x_8 q)) h10 0 rfl rfl rfl rfl (fun _ _ => rfl) FRef03.sz31 rfl fun w11 h11 => ?_
  simp only [List.cons_append, List.nil_append, List.set_cons_zero, List.set_cons_succ] at h11
  refine Plan.nil ?_
  refine hK6 _ _ ?_; clear hK6
  refine W.seq_k fun K12 hK12 => ?_
  refine W.regionT [(0, true), (1, true), (2, true), (3, false), (4, true), (5, true), (6, true), (7, true)] (by kernel_rfl) ?_
  refine Plan.slArrO (lo := 0) (hi := 32) (m := 32) (c := 32) (o' := 0) FRef03.arr31 rfl rfl rfl rfl (by omega) (by omega) (by omega) (by omega) ?_
  refine Plan.move_slice rfl rfl ?_
  refine Plan.move_int rfl rfl ?_
  rcases hR with ⟨x_14, x_15, hr13, hR⟩ | ⟨x_16, x_17, hr13, hR⟩
  ·
    refine Plan.call (vs := [.slice (some ⟨b10, 0, none⟩) 32 32, .slice ainfo3 info3.length cinfo3, .int .i64 n_4]) rfl FRef03.call75 rfl (letheref03_Expand_ok (iG2 := iG2 + 1) hG2 (iG3 := iG3 + 1) hG3 (by exact (Bx.arr0 (n := 32) (cc := 32) 0 rfl (by omega) (by omega))) (hinfo3.app [_]) hr13 h11) ?_
    rintro _ w23 ⟨ay0_18, py0_19, ny0_20, cy0_21, Fy0_22, rfl, h23, hf23_0⟩
    try dsimp only at hf23_0
    obtain rfl := hf23_0.hl
    refine ⟨_, rfl, .inl ⟨PIn.keep PIn.nil h23, ?_⟩⟩
    refine Plan.extract_slice rfl rfl rfl ?_
    refine Plan.extract_int rfl rfl rfl ?_
    refine Plan.assign_slice rfl rfl ?_
    refine Plan.assign_int rfl rfl ?_
    refine Plan.nil ?_
    refine hK12 _ _ ?_; clear hK12
    refine W.ret (finR_ret ?_)
    have h24 := St.pickT (C := [_, _]) h23 [0] (by decide)
    simp only [pick, List.filterMap_cons, List.filterMap_nil, List.getElem?_cons_zero, List.getElem?_cons_succ, List.cons_append, List.nil_append] at h24
    subst r
    refine RetOk.mk (.tmp_slice rfl (.tmp_int rfl .nil)) ?_
    exact ⟨ay0_18, py0_19, x_14.length, cy0_21, Fy0_22, rfl, h24, hf23_0⟩
  ·
    refine Plan.call (vs := [.slice (some ⟨b10, 0, none⟩) 32 32, .slice ainfo3 info3.length cinfo3, .int .i64 n_4]) rfl FRef03.call75 rfl (letheref03_Expand_ok (iG2 := iG2 + 1) hG2 (iG3 := iG3 + 1) hG3 (by exact (Bx.arr0 (n := 32) (cc := 32) 0 rfl (by omega) (by omega))) (hinfo3.app [_]) hr13 h11) ?_
    rintro _ w29 ⟨ry0_25, ay0_26, ny0_27, cy0_28, rfl, h29, hf29_0⟩
    try dsimp only at hf29_0
    obtain rfl := hf29_0.hl
    refine ⟨_, rfl, .inl ⟨PIn.keep PIn.nil h29, ?_⟩⟩
    refine Plan.extract_slice rfl rfl rfl ?_
    refine Plan.extract_int rfl rfl rfl ?_
    refine Plan.assign_slice rfl rfl ?_
    refine Plan.assign_int rfl rfl ?_
    refine Plan.nil ?_
    refine hK12 _ _ ?_; clear hK12
    refine W.ret (finR_ret ?_)
    have h30 := St.pickT (C := [_, _]) h29 [0] (by decide)
    simp only [pick, List.filterMap_cons, List.filterMap_nil, List.getElem?_cons_zero, List.getElem?_cons_succ, List.cons_append, List.nil_append] at h30
    subst r
    refine RetOk.mk (.tmp_slice rfl (.tmp_int rfl .nil)) ?_
    exact ⟨ry0_25, ay0_26, x_16.length, cy0_28, rfl, h30, (Bx.move (j := 0) hf29_0 rfl rfl)⟩


set_option maxRecDepth 8000 in
set_option maxHeartbeats 1000000 in
theorem letheref03_Keys_ok {B : Nat} {w0 w : World} {L : List Rg} {iG2 : Nat} (hG2 : L[iG2]? = some ⟨some 2, 0, 64, fun q => VU .u64 (K64 q), false⟩) {iG3 : Nat} (hG3 : L[iG3]? = some ⟨some 3, 0, 8, fun q => VU .u64 (H64 q), false⟩) {salt1 : List Byte} {asalt1 : Option Addr} {nsalt1 csalt1 isalt1 : Nat} (hsalt1 : Bx L isalt1 asalt1 nsalt1 csalt1 salt1) {key2 : List Byte} {akey2 : Option Addr} {nkey2 ckey2 ikey2 : Nat} (hkey2 : Bx L ikey2 akey2 nkey2 ckey2 key2) {info3 : List Byte} {ainfo3 : Option Addr} {ninfo3 cinfo3 iinfo3 : Nat} (hinfo3 : Bx L iinfo3 ainfo3 ninfo3 cinfo3 info3) {n_4 : Int} {r : ((List (Nat → BitVec 8)) × Nat)} (hR : letheref03_Keys salt1 key2 info3 n_4 r) (HST : St B w0 (L) w) :
    Calls Tryd.prog 77 #[.slice asalt1 nsalt1 csalt1, .slice akey2 nkey2 ckey2, .slice ainfo3 ninfo3 cinfo3, .int .i64 n_4] w fun e w' => ∃ ay0 : Option Addr, ∃ py0 : Option Nat, ∃ ny0 : Nat, ∃ cy0 : Nat, ∃ Fy0 : Nat → Value, e = .returned (.tuple #[.slice ay0 ny0 cy0, VN r.2]) ∧ St B w0 (⟨py0, 0, cy0 * 32, Fy0, true⟩ :: L) w' ∧ LO D31 [] ay0 py0 ny0 cy0 Fy0 r.1 := by
  refine W.enter 55 Tryd.func77 rfl rfl rfl ?_
  unfold letheref03_Keys at hR
  have esalt1 := hsalt1.hl; subst esalt1
  have ekey2 := hkey2.hl; subst ekey2
  have einfo3 := hinfo3.hl; subst einfo3
  refine W.seq_k fun K5 hK5 => ?_
  refine W.regionT [(0, true), (1, true)] (by kernel_rfl) ?_
  refine Plan.assign_slice rfl rfl ?_
  refine Plan.assign_int rfl rfl ?_
  refine Plan.nil ?_
  refine hK5 _ _ ?_; clear hK5
  refine W.seq_k fun K6 hK6 => ?_
  refine W.seq_k fun K7 hK7 => ?_
  refine W.regionT [(0, true), (1, true)] (by kernel_rfl) ?_
  refine Plan.move_int rfl rfl ?_
  refine Plan.cmpP (a := (n_4 : Int)) (b := (0 : Int)) (p := n_4 < 0) rfl rfl rfl rfl icmp_lt ?_
  refine Plan.nil ?_
  refine hK7 _ _ ?_; clear hK7
  by_cases hc8 : n_4 < 0
  ·
    replace hR := ifT hR hc8
    refine W.condT (congrArg Value.bool (decide_eq_true hc8)) ?_
    refine W.seq_k fun K9 hK9 => ?_
    refine W.regionT [(0, true), (1, true)] (by kernel_rfl) ?_
    refine Plan.assign_slice rfl rfl ?_
    refine Plan.assign_int rfl rfl ?_
    refine Plan.nil ?_
    refine hK9 _ _ ?_; clear hK9
    refine W.ret (thenR_ret (finR_ret ?_))
    have h10 : St B w0 (⟨none, 0, 0 * 32, fun _ => undef, true⟩ :: _) _ := HST.nilE (fun _ => undef)
    subst r
    refine RetOk.mk (.tmp_slice rfl (.tmp_int rfl .nil)) ?_
    exact ⟨none, none, 0, 0, (fun _ => undef), rfl, h10, LO.nil⟩
  ·
    replace hR := ifF hR hc8
    refine W.condF (congrArg Value.bool (decide_eq_false hc8)) ?_
    refine W.skip ?_
    refine hK6 _ _ ?_; clear hK6
    refine W.seq_k fun K11 hK11 => ?_
    refine W.seq_k fun K12 hK12 => ?_
    refine W.regionT [(0, true), (1, true)] (by kernel_rfl) ?_
    refine Plan.move_int rfl rfl ?_
    refine Plan.cmpP (a := (n_4 : Int)) (b := (255 : Int)) (p := 255 < n_4) rfl rfl rfl rfl icmp_gt ?_
    refine Plan.nil ?_
    refine hK12 _ _ ?_; clear hK12
    by_cases hc13 : 255 < n_4
    ·
      replace hR := ifT hR hc13
      refine W.condT (congrArg Value.bool (decide_eq_true hc13)) ?_
      refine W.seq_k fun K14 hK14 => ?_
      refine W.regionT [(0, true), (1, true)] (by kernel_rfl) ?_
      refine Plan.assign_slice rfl rfl ?_
      refine Plan.assign_int rfl rfl ?_
      refine Plan.nil ?_
      refine hK14 _ _ ?_; clear hK14
      refine W.ret (thenR_ret (finR_ret ?_))
      have h15 : St B w0 (⟨none, 0, 0 * 32, fun _ => undef, true⟩ :: _) _ := HST.nilE (fun _ => undef)
      subst r
      refine RetOk.mk (.tmp_slice rfl (.tmp_int rfl .nil)) ?_
      exact ⟨none, none, 0, 0, (fun _ => undef), rfl, h15, LO.nil⟩
    ·
      replace hR := ifF hR hc13
      refine W.condF (congrArg Value.bool (decide_eq_false hc13)) ?_
      refine W.skip ?_
      refine hK11 _ _ ?_; clear hK11
      refine W.seq_k fun K16 hK16 => ?_
      refine W.regionT [(0, true), (1, true), (2, true), (3, true), (4, true), (5, false), (6, true), (7, true), (8, true), (9, true), (10, true)] (by kernel_rfl) ?_
      refine Plan.move_slice rfl rfl ?_
      refine Plan.move_slice rfl rfl ?_
      refine Plan.move_slice rfl rfl ?_
      refine Plan.move_int rfl rfl ?_
      refine Plan.mulI (a := 32) (b := n_4) rfl rfl rfl (by omega) ?_
      rcases hR with ⟨x_18, x_19, hr17, hR⟩ | ⟨x_20, x_21, hr17, hR⟩
      ·
        refine Plan.call (vs := [.slice asalt1 salt1.length csalt1, .slice akey2 key2.length ckey2, .slice ainfo3 info3.length cinfo3, .int .i64 (32 * n_4)]) rfl FRef03.call64 rfl (letheref03_Derive_ok (iG2 := iG2 + 0) hG2 (iG3 := iG3 + 0) hG3 hsalt1 hkey2 hinfo3 hr17 HST) ?_
        rintro _ w27 ⟨ay0_22, py0_23, ny0_24, cy0_25, Fy0_26, rfl, h27, hf27_0⟩
        try dsimp only at hf27_0
        obtain rfl := hf27_0.hl
        refine ⟨_, rfl, .inl ⟨PIn.keep PIn.nil h27, ?_⟩⟩
        refine Plan.move_tuple rfl rfl ?_
        refine Plan.extract_slice rfl rfl rfl ?_
        refine Plan.extract_int rfl rfl rfl ?_
        refine Plan.assign_slice rfl rfl ?_
        refine Plan.assign_int rfl rfl ?_
        refine Plan.nil ?_
        refine hK16 _ _ ?_; clear hK16
        refine W.seq_k fun K28 hK28 => ?_
        refine W.seq_k fun K29 hK29 => ?_
        refine W.regionT [(0, true), (1, true)] (by kernel_rfl) ?_
        refine Plan.move_int rfl rfl ?_
        refine Plan.cmpP (a := (((x_19 : Nat) : Int) : Int)) (b := (0 : Int)) (p := x_19 ≠ 0) rfl rfl rfl rfl icmp_neN ?_
        refine Plan.nil ?_
        refine hK29 _ _ ?_; clear hK29
        by_cases hc30 : x_19 ≠ 0
        ·
          replace hR := ifT hR hc30
          refine W.condT (congrArg Value.bool (decide_eq_true hc30)) ?_
          refine W.seq_k fun K31 hK31 => ?_
          refine W.regionT [(0, true), (1, true), (2, true)] (by kernel_rfl) ?_
          refine Plan.move_int rfl rfl ?_
          refine Plan.assign_slice rfl rfl ?_
          refine Plan.assign_int rfl rfl ?_
          refine Plan.nil ?_
          refine hK31 _ _ ?_; clear hK31
          refine W.ret (thenR_ret (finR_ret ?_))
          have h32 : St B w0 (⟨none, 0, 0 * 32, fun _ => undef, true⟩ :: _) _ := h27.nilE (fun _ => undef)
          have h33 := St.pickT (C := [_, _]) h32 [0] (by decide)
          simp only [pick, List.filterMap_cons, List.filterMap_nil, List.getElem?_cons_zero, List.getElem?_cons_succ, List.cons_append, List.nil_append] at h33
          subst r
          refine RetOk.mk (.tmp_slice rfl (.tmp_int rfl .nil)) ?_
          exact ⟨none, none, 0, 0, (fun _ => undef), rfl, h33, LO.nil⟩
        ·
          replace hR := ifF hR hc30
          refine W.condF (congrArg Value.bool (decide_eq_false hc30)) ?_
          refine W.skip ?_
          refine hK28 _ _ ?_; clear hK28
          refine W.seq_k fun K34 hK34 => ?_
          refine W.regionT [(0, true)] (by kernel_rfl) ?_
          refine Plan.assign_slice rfl rfl ?_
          refine Plan.nil ?_
          refine hK34 _ _ ?_; clear hK34
          refine W.seq_k fun K35 hK35 => ?_
          refine W.seq_k fun K36 hK36 => ?_
          refine W.regionT [(0, true)] (by kernel_rfl) ?_
          refine Plan.assign_int rfl rfl ?_
          refine Plan.nil ?_
          refine hK36 _ _ ?_; clear hK36
          have h139 : St B w0 (⟨none, 0, 0 * 32, fun _ => undef, true⟩ :: _) _ := h27.nilE (fun _ => undef)
          obtain ⟨out137, hI138, hR0138⟩ := hR
          refine W.cutN (fun e w => ∃ y_out137 : List (Nat → BitVec 8), out137 = y_out137 ∧ ∃ n_out137 : Nat, ∃ aout137 : Option Addr, ∃ pout137 : Option Nat, ∃ cout137 : Nat, ∃ Fout137 : Nat → Value, EnvHas e [(12, .slice aout137 n_out137 cout137)] ∧ St B w0 (⟨pout137, 0, cout137 * 32, Fout137, true⟩ :: L) w ∧ LO D31 [] aout137 pout137 n_out137 cout137 Fout137 y_out137) ?_ ?_
          ·
            refine W.block ?_
            have h140 := St.pickT (C := [_, _]) h139 [1, 0] (by decide)
            simp only [pick, List.filterMap_cons, List.filterMap_nil, List.getElem?_cons_zero, List.getElem?_cons_succ, List.cons_append, List.nil_append] at h140
            refine W.iter hI138 (fun (s138 : ((List Byte) × (List (Nat → BitVec 8)) × Nat)) e w => ∃ ab133 : Option Addr, ∃ pb133 : Option Nat, ∃ cb133 : Nat, ∃ Fb133 : Nat → Byte, ∃ n_out134 : Nat, ∃ aout134 : Option Addr, ∃ pout134 : Option Nat, ∃ cout134 : Nat, ∃ Fout134 : Nat → Value, EnvHas e [(3, .int .i64 n_4), (10, .slice ab133 x_18.length cb133), (12, .slice aout134 n_out134 cout134), (13, VN s138.2.2)] ∧ St B w0 (⟨pb133, 0, cb133, fun q => VU .u8 (Fb133 q), true⟩ :: ⟨pout134, 0, cout134 * 32, Fout134, true⟩ :: L) w ∧ Ow ab133 pb133 x_18.length cb133 Fb133 s138.1 ∧ LO D31 [] aout134 pout134 n_out134 cout134 Fout134 s138.2.1) ⟨ay0_22, py0_23, cy0_25, Fy0_26, 0, none, none, 0, (fun _ => undef), (EnvHas.cons rfl (EnvHas.cons rfl (EnvHas.cons rfl (EnvHas.cons rfl EnvHas.nil)))), h140, hf27_0, LO.nil⟩ ?_
            rintro ⟨b133, out134, i_136⟩ o138 hR hx138 ev141 wl141 ⟨ab133, pb133, cb133, Fb133, n_out134, aout134, pout134, cout134, Fout134, he141, h141, hb133, hout134⟩
            try dsimp only at he141 h141 hb133 hout134
            obtain rfl : List.length (α := (Nat → BitVec 8)) out134 = n_out134 := hout134.hl
            obtain ⟨ev141, rfl⟩ := he141.open
            unfold letheref03_Keys_l0 at hR
            refine W.seq_k fun K142 hK142 => ?_
            refine W.seq_k fun K143 hK143 => ?_
            refine W.regionT [(0, true), (1, true), (2, true)] (by kernel_rfl) ?_
            refine Plan.move_int rfl rfl ?_
            refine Plan.move_int rfl rfl ?_
            refine Plan.cmpP (a := (((i_136 : Nat) : Int) : Int)) (b := (n_4 : Int)) (p := ((i_136 : Nat) : Int) < n_4) rfl rfl rfl rfl icmp_lt ?_
            refine Plan.nil ?_
            refine hK143 _ _ ?_; clear hK143
            by_cases hc144 : ((i_136 : Nat) : Int) < n_4
            ·
              replace hR := ifT hR hc144
              refine W.condT (congrArg Value.bool (decide_eq_true hc144)) ?_
              refine W.skip ?_
              refine hK142 _ _ ?_; clear hK142
              refine W.seq_k fun K145 hK145 => ?_
              refine W.block ?_
              refine W.seq_k fun K146 hK146 => ?_
              refine W.regionT [(0, false)] (by kernel_rfl) ?_
              refine Plan.alloc h141 rfl FRef03.z31 PIn.nil fun b147 w147 hb147 h147 => ?_
              simp only [rngs, Nat.zero_add, Nat.reduceAdd, List.cons_append, List.nil_append] at h147
              refine Plan.nil ?_
              refine hK146 _ _ ?_; clear hK146
              refine W.seq_k fun K148 hK148 => ?_
              refine W.seq_k fun K149 hK149 => ?_
              refine W.regionT [(0, true)] (by kernel_rfl) ?_
              refine Plan.assign_int rfl rfl ?_
              refine Plan.nil ?_
              refine hK149 _ _ ?_; clear hK149
              obtain ⟨b170, m171, hI172, hR0172⟩ := hR
              refine W.cutN (fun e w => ∃ y_b170 : List Byte, ∃ y_m171 : Nat → BitVec 8, (b170, m171) = (y_b170, y_m171) ∧ ∃ ab170 : Option Addr, ∃ pb170 : Option Nat, ∃ cb170 : Nat, ∃ Fb170 : Nat → Byte, EnvHas e [(3, .int .i64 n_4), (10, .slice ab170 x_18.length cb170), (12, .slice aout134 out134.length cout134), (13, VN i_136), (14, .pointer (some ⟨b147, 0, none⟩))] ∧ St B w0 (⟨pb170, 0, cb170, fun q => VU .u8 (Fb170 q), true⟩ :: ⟨some b147, 0, 32, fun q => VU .u8 (y_m171 q), true⟩ :: ⟨pout134, 0, cout134 * 32, Fout134, true⟩ :: L) w ∧ Ow ab170 pb170 x_18.length cb170 Fb170 y_b170) ?_ ?_
              ·
                refine W.block ?_
                have h173 := St.pickT (C := [_, _, _]) h147 [1, 0, 2] (by decide)
                simp only [pick, List.filterMap_cons, List.filterMap_nil, List.getElem?_cons_zero, List.getElem?_cons_succ, List.cons_append, List.nil_append] at h173
                refine W.iter hI172 (fun (s172 : ((List Byte) × Nat × (Nat → BitVec 8))) e w => ∃ ab167 : Option Addr, ∃ pb167 : Option Nat, ∃ cb167 : Nat, ∃ Fb167 : Nat → Byte, EnvHas e [(3, .int .i64 n_4), (10, .slice ab167 x_18.length cb167), (12, .slice aout134 out134.length cout134), (13, VN i_136), (14, .pointer (some ⟨b147, 0, none⟩)), (15, VN s172.2.1)] ∧ St B w0 (⟨pb167, 0, cb167, fun q => VU .u8 (Fb167 q), true⟩ :: ⟨some b147, 0, 32, fun q => VU .u8 (s172.2.2 q), true⟩ :: ⟨pout134, 0, cout134 * 32, Fout134, true⟩ :: L) w ∧ Ow ab167 pb167 x_18.length cb167 Fb167 s172.1) ⟨ab133, pb133, cb133, Fb133, (EnvHas.cons rfl (EnvHas.cons rfl (EnvHas.cons rfl (EnvHas.cons rfl (EnvHas.cons rfl (EnvHas.cons rfl EnvHas.nil)))))), h173, hb133⟩ ?_
                rintro ⟨b167, m168, m169⟩ o172 hR hx172 ev174 wl174 ⟨ab167, pb167, cb167, Fb167, he174, h174, hb167⟩
                obtain ⟨ev174, rfl⟩ := he174.open
                unfold letheref03_Keys_l1 at hR
                refine W.seq_k fun K175 hK175 => ?_
                refine W.seq_k fun K176 hK176 => ?_
                refine W.regionT [(0, true), (1, true)] (by kernel_rfl) ?_
                refine Plan.move_int rfl rfl ?_
                refine Plan.cmpP (a := (((m168 : Nat) : Int) : Int)) (b := (32 : Int)) (p := m168 < 32) rfl rfl rfl rfl icmp_ltN ?_
                refine Plan.nil ?_
                refine hK176 _ _ ?_; clear hK176
                by_cases hc177 : m168 < 32
                ·
                  replace hR := ifT hR hc177
                  refine W.condT (congrArg Value.bool (decide_eq_true hc177)) ?_
                  refine W.skip ?_
                  refine hK175 _ _ ?_; clear hK175
                  refine W.seq_k fun K178 hK178 => ?_
                  refine W.block ?_
                  refine W.regionT [(0, true), (1, true), (2, true), (3, true), (4, true), (5, true), (6, true), (7, true), (8, true), (9, false)] (by kernel_rfl) ?_
                  refine Plan.move_int rfl rfl ?_
                  refine Plan.move_slice rfl rfl ?_
                  refine Plan.move_int rfl rfl ?_
                  refine Plan.mulN (a := 32) (b := i_136) rfl rfl rfl (by omega) ?_
                  refine Plan.move_int rfl rfl ?_
                  refine Plan.addN (a := (32 * i_136)) (b := m168) rfl rfl rfl (by omega) ?_
                  obtain ⟨hc179, hR⟩ := hR
                  refine Plan.idxVS (j := ((32 * i_136) + m168)) h174 (hb167.bx 0 rfl) FRef03.sl22 rfl rfl rfl hc179 ?_
                  refine Plan.loadV (j := ((32 * i_136) + m168)) h174 (hb167.bx 0 rfl) rfl rfl hc179 FRef03.sc5 fun r180 hr180 => ?_
                  refine Plan.idxArr1 (j := m168) FRef03.arr31 rfl rfl rfl (by omega) ?_
                  refine Plan.storeU (j := m168) (X := (lit b167 ((32 * i_136) + m168))) h174 1 rfl rfl rfl rfl (by omega) FRef03.sz5 rfl fun w181 h181 => ?_
                  simp only [List.cons_append, List.nil_append, List.set_cons_zero, List.set_cons_succ] at h181
                  refine Plan.nil ?_
                  refine blockR_norm ?_
                  refine hK178 _ _ ?_; clear hK178
                  refine W.regionT [(0, true), (1, true), (2, true)] (by kernel_rfl) ?_
                  refine Plan.move_int rfl rfl ?_
                  refine Plan.addN (a := m168) (b := 1) rfl rfl rfl (by omega) ?_
                  refine Plan.assign_int rfl rfl ?_
                  refine Plan.nil ?_
                  exact iterR_norm ⟨_, hR, ab167, pb167, cb167, Fb167, (EnvHas.cons rfl (EnvHas.cons rfl (EnvHas.cons rfl (EnvHas.cons rfl (EnvHas.cons rfl (EnvHas.cons rfl EnvHas.nil)))))), h181, hb167⟩
                ·
                  replace hR := ifF hR hc177
                  refine W.condF (congrArg Value.bool (decide_eq_false hc177)) ?_
                  refine W.exit (thenR_exit (iterR_exit (blockR_here ?_)))
                  exact ⟨b167, m169, (hx172 _ hR).symm, ab167, pb167, cb167, Fb167, (EnvHas.cons rfl (EnvHas.cons rfl (EnvHas.cons rfl (EnvHas.cons rfl (EnvHas.cons rfl EnvHas.nil))))), h174, hb167⟩
              ·
                rintro ev182 wl182 ⟨y_b170, y_m171, hy182, ab170, pb170, cb170, Fb170, he182, h182, hb170⟩
                obtain ⟨ev182, rfl⟩ := he182.open
                cases hy182
                replace hR := hR0172
                refine hK148 _ _ ?_; clear hK148
                refine W.regionT [(0, true), (1, true), (2, false), (3, false), (4, true)] (by kernel_rfl) ?_
                refine Plan.move_slice rfl rfl ?_
                refine Plan.loadA1 h182 1 rfl rfl rfl FRef03.agg31 ?_
                refine Plan.buildLO (D := D31) (sz := 32) h182 [((), m171)] FRef03.slu113 FRef03.sz31 FRef03.zv31 (by decide) (by decide) rfl rfl rfl rfl (fun _ _ => trivial) (EffO.wait rfl) fun b184 w184 F184 hb184 ho184 h184 => ?_
                replace ho184 : LO D31 [] (some ⟨b184, 0, none⟩) (some b184) ([m171] : List (Nat → BitVec 8)).length 1 F184 ([m171] : List (Nat → BitVec 8)) := ho184.re (fun _ _ h => h)
                obtain ⟨hc186, hR⟩ := hR
                refine Plan.appendLO (D := D31) (X := out134) (Y := ([m171] : List (Nat → BitVec 8))) (sz := 32) h184 () (fun _ => 0#8) 3 hout134 rfl FRef03.el113 rfl FRef03.slu113 rfl rfl rfl rfl (LO.lvf D31_flat ho184 0 rfl) (fun _ _ h => h) hc186.1 hc186.2 (fun _ => EffO.keep PIn.nil) fun a185 pb185 cap185 F185 w185 ho185 h185 => ?_
                simp only [List.cons_append, List.nil_append, List.set_cons_zero, List.set_cons_succ] at h185
                replace ho185 : LO D31 [] a185 pb185 (out134 ++ ([m171] : List (Nat → BitVec 8))).length cap185 F185 (out134 ++ ([m171] : List (Nat → BitVec 8))) := ho185.re (fun _ _ h => h)
                refine Plan.assign_slice rfl rfl ?_
                refine Plan.nil ?_
                refine blockR_norm ?_
                refine hK145 _ _ ?_; clear hK145
                refine W.regionT [(0, true), (1, true), (2, true)] (by kernel_rfl) ?_
                refine Plan.move_int rfl rfl ?_
                refine Plan.addN (a := i_136) (b := 1) rfl rfl rfl (by omega) ?_
                refine Plan.assign_int rfl rfl ?_
                refine Plan.nil ?_
                have h187 := St.pickT (C := [_, _, _, _]) h185 [1, 3] (by decide)
                simp only [pick, List.filterMap_cons, List.filterMap_nil, List.getElem?_cons_zero, List.getElem?_cons_succ, List.cons_append, List.nil_append] at h187
                exact iterR_norm ⟨_, hR, ab170, pb170, cb170, Fb170, (out134 ++ ([m171] : List (Nat → BitVec 8))).length, a185, pb185, cap185, F185, (EnvHas.cons rfl (EnvHas.cons rfl (EnvHas.cons rfl (EnvHas.cons rfl EnvHas.nil)))), h187, hb170, ho185⟩
            ·
              replace hR := ifF hR hc144
              refine W.condF (congrArg Value.bool (decide_eq_false hc144)) ?_
              refine W.exit (thenR_exit (iterR_exit (blockR_here ?_)))
              have h188 := St.pickT (C := [_, _]) h141 [1] (by decide)
              simp only [pick, List.filterMap_cons, List.filterMap_nil, List.getElem?_cons_zero, List.getElem?_cons_succ, List.cons_append, List.nil_append] at h188
              exact ⟨out134, (hx138 _ hR).symm, out134.length, aout134, pout134, cout134, Fout134, (EnvHas.cons rfl EnvHas.nil), h188, hout134⟩
          ·
            rintro ev189 wl189 ⟨y_out137, hy189, n_out137, aout137, pout137, cout137, Fout137, he189, h189, hout137⟩
            obtain ⟨ev189, rfl⟩ := he189.open
            subst hy189
            replace hR := hR0138
            obtain rfl : List.length (α := (Nat → BitVec 8)) out137 = n_out137 := hout137.hl
            refine hK35 _ _ ?_; clear hK35
            refine W.seq_k fun K190 hK190 => ?_
            refine W.regionT [(0, true), (1, true), (2, true)] (by kernel_rfl) ?_
            refine Plan.move_slice rfl rfl ?_
            refine Plan.assign_slice rfl rfl ?_
            refine Plan.assign_int rfl rfl ?_
            refine Plan.nil ?_
            refine hK190 _ _ ?_; clear hK190
            refine W.ret (finR_ret ?_)
            subst r
            refine RetOk.mk (.tmp_slice rfl (.tmp_int rfl .nil)) ?_
            exact ⟨aout137, pout137, out137.length, cout137, Fout137, rfl, h189, hout137⟩
      ·
        refine Plan.call (vs := [.slice asalt1 salt1.length csalt1, .slice akey2 key2.length ckey2, .slice ainfo3 info3.length cinfo3, .int .i64 (32 * n_4)]) rfl FRef03.call64 rfl (letheref03_Derive_ok (iG2 := iG2 + 0) hG2 (iG3 := iG3 + 0) hG3 hsalt1 hkey2 hinfo3 hr17 HST) ?_
        rintro _ w195 ⟨ry0_191, ay0_192, ny0_193, cy0_194, rfl, h195, hf195_0⟩
        try dsimp only at hf195_0
        obtain rfl := hf195_0.hl
        refine ⟨_, rfl, .inl ⟨PIn.keep PIn.nil h195, ?_⟩⟩
        refine Plan.move_tuple rfl rfl ?_
        refine Plan.extract_slice rfl rfl rfl ?_
        refine Plan.extract_int rfl rfl rfl ?_
        refine Plan.assign_slice rfl rfl ?_
        refine Plan.assign_int rfl rfl ?_
        refine Plan.nil ?_
        refine hK16 _ _ ?_; clear hK16
        refine W.seq_k fun K196 hK196 => ?_
        refine W.seq_k fun K197 hK197 => ?_
        refine W.regionT [(0, true), (1, true)] (by kernel_rfl) ?_
        refine Plan.move_int rfl rfl ?_
        refine Plan.cmpP (a := (((x_21 : Nat) : Int) : Int)) (b := (0 : Int)) (p := x_21 ≠ 0) rfl rfl rfl rfl icmp_neN ?_
        refine Plan.nil ?_
        refine hK197 _ _ ?_; clear hK197
        by_cases hc198 : x_21 ≠ 0
        ·
          replace hR := ifT hR hc198
          refine W.condT (congrArg Value.bool (decide_eq_true hc198)) ?_
          refine W.seq_k fun K199 hK199 => ?_
          refine W.regionT [(0, true), (1, true), (2, true)] (by kernel_rfl) ?_
          refine Plan.move_int rfl rfl ?_
          refine Plan.assign_slice rfl rfl ?_
          refine Plan.assign_int rfl rfl ?_
          refine Plan.nil ?_
          refine hK199 _ _ ?_; clear hK199
          refine W.ret (thenR_ret (finR_ret ?_))
          have h200 : St B w0 (⟨none, 0, 0 * 32, fun _ => undef, true⟩ :: _) _ := h195.nilE (fun _ => undef)
          have h201 := St.pickT (C := [_, _]) h200 [0] (by decide)
          simp only [pick, List.filterMap_cons, List.filterMap_nil, List.getElem?_cons_zero, List.getElem?_cons_succ, List.cons_append, List.nil_append] at h201
          subst r
          refine RetOk.mk (.tmp_slice rfl (.tmp_int rfl .nil)) ?_
          exact ⟨none, none, 0, 0, (fun _ => undef), rfl, h201, LO.nil⟩
        ·
          replace hR := ifF hR hc198
          refine W.condF (congrArg Value.bool (decide_eq_false hc198)) ?_
          refine W.skip ?_
          refine hK196 _ _ ?_; clear hK196
          refine W.seq_k fun K202 hK202 => ?_
          refine W.regionT [(0, true)] (by kernel_rfl) ?_
          refine Plan.assign_slice rfl rfl ?_
          refine Plan.nil ?_
          refine hK202 _ _ ?_; clear hK202
          refine W.seq_k fun K203 hK203 => ?_
          refine W.seq_k fun K204 hK204 => ?_
          refine W.regionT [(0, true)] (by kernel_rfl) ?_
          refine Plan.assign_int rfl rfl ?_
          refine Plan.nil ?_
          refine hK204 _ _ ?_; clear hK204
          have h294 : St B w0 (⟨none, 0, 0 * 32, fun _ => undef, true⟩ :: _) _ := h195.nilE (fun _ => undef)
          obtain ⟨out292, hI293, hR0293⟩ := hR
          refine W.cutN (fun e w => ∃ y_out292 : List (Nat → BitVec 8), out292 = y_out292 ∧ ∃ n_out292 : Nat, ∃ aout292 : Option Addr, ∃ pout292 : Option Nat, ∃ cout292 : Nat, ∃ Fout292 : Nat → Value, EnvHas e [(12, .slice aout292 n_out292 cout292)] ∧ St B w0 (⟨pout292, 0, cout292 * 32, Fout292, true⟩ :: L) w ∧ LO D31 [] aout292 pout292 n_out292 cout292 Fout292 y_out292) ?_ ?_
          ·
            refine W.block ?_
            refine W.iter hI293 (fun (s293 : ((List (Nat → BitVec 8)) × Nat)) e w => ∃ n_out289 : Nat, ∃ aout289 : Option Addr, ∃ pout289 : Option Nat, ∃ cout289 : Nat, ∃ Fout289 : Nat → Value, EnvHas e [(3, .int .i64 n_4), (10, .slice ay0_192 x_20.length cy0_194), (12, .slice aout289 n_out289 cout289), (13, VN s293.2)] ∧ St B w0 (⟨pout289, 0, cout289 * 32, Fout289, true⟩ :: ry0_191 :: L) w ∧ LO D31 [] aout289 pout289 n_out289 cout289 Fout289 s293.1) ⟨0, none, none, 0, (fun _ => undef), (EnvHas.cons rfl (EnvHas.cons rfl (EnvHas.cons rfl (EnvHas.cons rfl EnvHas.nil)))), h294, LO.nil⟩ ?_
            rintro ⟨out289, i_291⟩ o293 hR hx293 ev295 wl295 ⟨n_out289, aout289, pout289, cout289, Fout289, he295, h295, hout289⟩
            try dsimp only at he295 h295 hout289
            obtain rfl : List.length (α := (Nat → BitVec 8)) out289 = n_out289 := hout289.hl
            obtain ⟨ev295, rfl⟩ := he295.open
            unfold letheref03_Keys_l2 at hR
            refine W.seq_k fun K296 hK296 => ?_
            refine W.seq_k fun K297 hK297 => ?_
            refine W.regionT [(0, true), (1, true), (2, true)] (by kernel_rfl) ?_
            refine Plan.move_int rfl rfl ?_
            refine Plan.move_int rfl rfl ?_
            refine Plan.cmpP (a := (((i_291 : Nat) : Int) : Int)) (b := (n_4 : Int)) (p := ((i_291 : Nat) : Int) < n_4) rfl rfl rfl rfl icmp_lt ?_
            refine Plan.nil ?_
            refine hK297 _ _ ?_; clear hK297
            by_cases hc298 : ((i_291 : Nat) : Int) < n_4
            ·
              replace hR := ifT hR hc298
              refine W.condT (congrArg Value.bool (decide_eq_true hc298)) ?_
              refine W.skip ?_
              refine hK296 _ _ ?_; clear hK296
              refine W.seq_k fun K299 hK299 => ?_
              refine W.block ?_
              refine W.seq_k fun K300 hK300 => ?_
              refine W.regionT [(0, false)] (by kernel_rfl) ?_
              refine Plan.alloc h295 rfl FRef03.z31 PIn.nil fun b301 w301 hb301 h301 => ?_
              simp only [rngs, Nat.zero_add, Nat.reduceAdd, List.cons_append, List.nil_append] at h301
              refine Plan.nil ?_
              refine hK300 _ _ ?_; clear hK300
              refine W.seq_k fun K302 hK302 => ?_
              refine W.seq_k fun K303 hK303 => ?_
              refine W.regionT [(0, true)] (by kernel_rfl) ?_
              refine Plan.assign_int rfl rfl ?_
              refine Plan.nil ?_
              refine hK303 _ _ ?_; clear hK303
              obtain ⟨m321, hI322, hR0322⟩ := hR
              refine W.cutN (fun e w => ∃ y_m321 : Nat → BitVec 8, m321 = y_m321 ∧ EnvHas e [(3, .int .i64 n_4), (10, .slice ay0_192 x_20.length cy0_194), (12, .slice aout289 out289.length cout289), (13, VN i_291), (14, .pointer (some ⟨b301, 0, none⟩))] ∧ St B w0 (⟨some b301, 0, 32, fun q => VU .u8 (y_m321 q), true⟩ :: ⟨pout289, 0, cout289 * 32, Fout289, true⟩ :: ry0_191 :: L) w) ?_ ?_
              ·
                refine W.block ?_
                refine W.iter hI322 (fun (s322 : (Nat × (Nat → BitVec 8))) e w => EnvHas e [(3, .int .i64 n_4), (10, .slice ay0_192 x_20.length cy0_194), (12, .slice aout289 out289.length cout289), (13, VN i_291), (14, .pointer (some ⟨b301, 0, none⟩)), (15, VN s322.1)] ∧ St B w0 (⟨some b301, 0, 32, fun q => VU .u8 (s322.2 q), true⟩ :: ⟨pout289, 0, cout289 * 32, Fout289, true⟩ :: ry0_191 :: L) w) ⟨(EnvHas.cons rfl (EnvHas.cons rfl (EnvHas.cons rfl (EnvHas.cons rfl (EnvHas.cons rfl (EnvHas.cons rfl EnvHas.nil)))))), h301⟩ ?_
                rintro ⟨m319, m320⟩ o322 hR hx322 ev323 wl323 ⟨he323, h323⟩
                obtain ⟨ev323, rfl⟩ := he323.open
                unfold letheref03_Keys_l3 at hR
                refine W.seq_k fun K324 hK324 => ?_
                refine W.seq_k fun K325 hK325 => ?_
                refine W.regionT [(0, true), (1, true)] (by kernel_rfl) ?_
                refine Plan.move_int rfl rfl ?_
                refine Plan.cmpP (a := (((m319 : Nat) : Int) : Int)) (b := (32 : Int)) (p := m319 < 32) rfl rfl rfl rfl icmp_ltN ?_
                refine Plan.nil ?_
                refine hK325 _ _ ?_; clear hK325
                by_cases hc326 : m319 < 32
                ·
                  replace hR := ifT hR hc326
                  refine W.condT (congrArg Value.bool (decide_eq_true hc326)) ?_
                  refine W.skip ?_
                  refine hK324 _ _ ?_; clear hK324
                  refine W.seq_k fun K327 hK327 => ?_
                  refine W.block ?_
                  refine W.regionT [(0, true), (1, true), (2, true), (3, true), (4, true), (5, true), (6, true), (7, true), (8, true), (9, false)] (by kernel_rfl) ?_
                  refine Plan.move_int rfl rfl ?_
                  refine Plan.move_slice rfl rfl ?_
                  refine Plan.move_int rfl rfl ?_
                  refine Plan.mulN (a := 32) (b := i_291) rfl rfl rfl (by omega) ?_
                  refine Plan.move_int rfl rfl ?_
                  refine Plan.addN (a := (32 * i_291)) (b := m319) rfl rfl rfl (by omega) ?_
                  obtain ⟨hc328, hR⟩ := hR
                  refine Plan.idxVS (j := ((32 * i_291) + m319)) h323 (Bx.move (j := 2) hf195_0 rfl rfl) FRef03.sl22 rfl rfl rfl hc328 ?_
                  refine Plan.loadV (j := ((32 * i_291) + m319)) h323 (Bx.move (j := 2) hf195_0 rfl rfl) rfl rfl hc328 FRef03.sc5 fun r329 hr329 => ?_
                  refine Plan.idxArr1 (j := m319) FRef03.arr31 rfl rfl rfl (by omega) ?_
                  refine Plan.storeU (j := m319) (X := (lit x_20 ((32 * i_291) + m319))) h323 0 rfl rfl rfl rfl (by omega) FRef03.sz5 rfl fun w330 h330 => ?_
                  simp only [List.cons_append, List.nil_append, List.set_cons_zero, List.set_cons_succ] at h330
                  refine Plan.nil ?_
                  refine blockR_norm ?_
                  refine hK327 _ _ ?_; clear hK327
                  refine W.regionT [(0, true), (1, true), (2, true)] (by kernel_rfl) ?_
                  refine Plan.move_int rfl rfl ?_
                  refine Plan.addN (a := m319) (b := 1) rfl rfl rfl (by omega) ?_
                  refine Plan.assign_int rfl rfl ?_
                  refine Plan.nil ?_
                  exact iterR_norm ⟨_, hR, (EnvHas.cons rfl (EnvHas.cons rfl (EnvHas.cons rfl (EnvHas.cons rfl (EnvHas.cons rfl (EnvHas.cons rfl EnvHas.nil)))))), h330⟩
                ·
                  replace hR := ifF hR hc326
                  refine W.condF (congrArg Value.bool (decide_eq_false hc326)) ?_
                  refine W.exit (thenR_exit (iterR_exit (blockR_here ?_)))
                  exact ⟨m320, (hx322 _ hR).symm, (EnvHas.cons rfl (EnvHas.cons rfl (EnvHas.cons rfl (EnvHas.cons rfl (EnvHas.cons rfl EnvHas.nil))))), h323⟩
              ·
                rintro ev331 wl331 ⟨y_m321, hy331, he331, h331⟩
                obtain ⟨ev331, rfl⟩ := he331.open
                subst hy331
                replace hR := hR0322
                refine hK302 _ _ ?_; clear hK302
                refine W.regionT [(0, true), (1, true), (2, false), (3, false), (4, true)] (by kernel_rfl) ?_
                refine Plan.move_slice rfl rfl ?_
                refine Plan.loadA1 h331 0 rfl rfl rfl FRef03.agg31 ?_
                refine Plan.buildLO (D := D31) (sz := 32) h331 [((), m321)] FRef03.slu113 FRef03.sz31 FRef03.zv31 (by decide) (by decide) rfl rfl rfl rfl (fun _ _ => trivial) (EffO.wait rfl) fun b333 w333 F333 hb333 ho333 h333 => ?_
                replace ho333 : LO D31 [] (some ⟨b333, 0, none⟩) (some b333) ([m321] : List (Nat → BitVec 8)).length 1 F333 ([m321] : List (Nat → BitVec 8)) := ho333.re (fun _ _ h => h)
                obtain ⟨hc335, hR⟩ := hR
                refine Plan.appendLO (D := D31) (X := out289) (Y := ([m321] : List (Nat → BitVec 8))) (sz := 32) h333 () (fun _ => 0#8) 2 hout289 rfl FRef03.el113 rfl FRef03.slu113 rfl rfl rfl rfl (LO.lvf D31_flat ho333 0 rfl) (fun _ _ h => h) hc335.1 hc335.2 (fun _ => EffO.keep PIn.nil) fun a334 pb334 cap334 F334 w334 ho334 h334 => ?_
                simp only [List.cons_append, List.nil_append, List.set_cons_zero, List.set_cons_succ] at h334
                replace ho334 : LO D31 [] a334 pb334 (out289 ++ ([m321] : List (Nat → BitVec 8))).length cap334 F334 (out289 ++ ([m321] : List (Nat → BitVec 8))) := ho334.re (fun _ _ h => h)
                refine Plan.assign_slice rfl rfl ?_
                refine Plan.nil ?_
                refine blockR_norm ?_
                refine hK299 _ _ ?_; clear hK299
                refine W.regionT [(0, true), (1, true), (2, true)] (by kernel_rfl) ?_
                refine Plan.move_int rfl rfl ?_
                refine Plan.addN (a := i_291) (b := 1) rfl rfl rfl (by omega) ?_
                refine Plan.assign_int rfl rfl ?_
                refine Plan.nil ?_
                have h336 := St.pickT (C := [_, _, _, _]) h334 [2, 3] (by decide)
                simp only [pick, List.filterMap_cons, List.filterMap_nil, List.getElem?_cons_zero, List.getElem?_cons_succ, List.cons_append, List.nil_append] at h336
                exact iterR_norm ⟨_, hR, (out289 ++ ([m321] : List (Nat → BitVec 8))).length, a334, pb334, cap334, F334, (EnvHas.cons rfl (EnvHas.cons rfl (EnvHas.cons rfl (EnvHas.cons rfl EnvHas.nil)))), h336, ho334⟩
            ·
              replace hR := ifF hR hc298
              refine W.condF (congrArg Value.bool (decide_eq_false hc298)) ?_
              refine W.exit (thenR_exit (iterR_exit (blockR_here ?_)))
              have h337 := St.pickT (C := [_, _]) h295 [0] (by decide)
              simp only [pick, List.filterMap_cons, List.filterMap_nil, List.getElem?_cons_zero, List.getElem?_cons_succ, List.cons_append, List.nil_append] at h337
              exact ⟨out289, (hx293 _ hR).symm, out289.length, aout289, pout289, cout289, Fout289, (EnvHas.cons rfl EnvHas.nil), h337, hout289⟩
          ·
            rintro ev338 wl338 ⟨y_out292, hy338, n_out292, aout292, pout292, cout292, Fout292, he338, h338, hout292⟩
            obtain ⟨ev338, rfl⟩ := he338.open
            subst hy338
            replace hR := hR0293
            obtain rfl : List.length (α := (Nat → BitVec 8)) out292 = n_out292 := hout292.hl
            refine hK203 _ _ ?_; clear hK203
            refine W.seq_k fun K339 hK339 => ?_
            refine W.regionT [(0, true), (1, true), (2, true)] (by kernel_rfl) ?_
            refine Plan.move_slice rfl rfl ?_
            refine Plan.assign_slice rfl rfl ?_
            refine Plan.assign_int rfl rfl ?_
            refine Plan.nil ?_
            refine hK339 _ _ ?_; clear hK339
            refine W.ret (finR_ret ?_)
            subst r
            refine RetOk.mk (.tmp_slice rfl (.tmp_int rfl .nil)) ?_
            exact ⟨aout292, pout292, out292.length, cout292, Fout292, rfl, h338, hout292⟩

end Go.Proofs.YtjdgbahjpdopbaaDoor
