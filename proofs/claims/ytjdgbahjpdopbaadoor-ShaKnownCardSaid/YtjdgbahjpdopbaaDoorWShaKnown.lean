/-
  WALKS of the package's functions, printed by this session's own program (auto.py).
-/
import Derived.Test.YtjdgbahjpdopbaaDoorProg
import Derived.Test.YtjdgbahjpdopbaaDoorLx5
import Derived.Test.YtjdgbahjpdopbaaDoorRShaKnown
import Derived.Test.YtjdgbahjpdopbaaDoorWLaw02
import Derived.Test.YtjdgbahjpdopbaaDoorWSha
namespace Go.Proofs.YtjdgbahjpdopbaaDoor
set_option linter.unusedSimpArgs false
set_option linter.unusedVariables false
set_option linter.unusedSectionVars false
open Go Go.LW
theorem FShaKnown.slu22 : Tryd.prog.underlying 22 = some (.slice 5) := by kernel_rfl
theorem FShaKnown.u5 : Tryd.prog.underlying 5 = some (.int .u8) := by kernel_rfl
theorem FShaKnown.sz5 : szT Tryd.prog 5 1 = true := by kernel_rfl
theorem FShaKnown.zv5 : (Tryd.prog.info? 5).bind (·.zero) = some (VU .u8 0#8) := by kernel_rfl
theorem FShaKnown.zv22 : (Tryd.prog.info? 22).bind (·.zero) = some (.slice none 0 0) := by kernel_rfl
theorem FShaKnown.slu75 : Tryd.prog.underlying 75 = some (.slice 22) := by kernel_rfl
theorem FShaKnown.sz22 : szT Tryd.prog 22 1 = true := by kernel_rfl
theorem FShaKnown.z32 : zeroIs Tryd.prog 32 [(32, fun _ => VU .u8 0#8)] := zeroIs_agg (by kernel_rfl)
theorem FShaKnown.call23 : callB Tryd.prog 23 = true := by kernel_rfl
theorem FShaKnown.sl22 : slB Tryd.prog 22 1 = true := by kernel_rfl
theorem FShaKnown.call25 : callB Tryd.prog 25 = true := by kernel_rfl
theorem FShaKnown.arr32 : arrB Tryd.prog 32 32 1 = true := by kernel_rfl
theorem FShaKnown.call27 : callB Tryd.prog 27 = true := by kernel_rfl
theorem FShaKnown.call21 : callB Tryd.prog 21 = true := by kernel_rfl
theorem FShaKnown.arrI32 : arrIB Tryd.prog 32 32 .u8 = true := by kernel_rfl
theorem FShaKnown.el22 : elD Tryd.prog 22 = some (1, 1, some (VU .u8 0#8)) := by kernel_rfl
theorem FShaKnown.ptr37 : ptrB Tryd.prog 37 = true := by kernel_rfl
theorem FShaKnown.call26 : callB Tryd.prog 26 = true := by kernel_rfl
theorem FShaKnown.call17 : callB Tryd.prog 17 = true := by kernel_rfl

set_option maxRecDepth 8000 in
set_option maxHeartbeats 1000000 in
theorem lethelaw02_ShaKnown_ok {B : Nat} {w0 w : World} {L : List Rg} {iG0 : Nat} (hG0 : L[iG0]? = some ⟨some 0, 0, 64, fun q => VU .u32 (K256 q), false⟩) {iG1 : Nat} (hG1 : L[iG1]? = some ⟨some 1, 0, 8, fun q => VU .u32 (H256 q), false⟩)  {r : Bool} (hR : lethelaw02_ShaKnown r) (HST : St B w0 (L) w) :
    Calls Tryd.prog 5 #[] w fun e w' => e = .returned (.bool r) ∧ St B w0 (L) w' := by
  refine W.enter 43 Tryd.func5 rfl rfl rfl ?_
  unfold lethelaw02_ShaKnown at hR
  refine W.seq_k fun K1 hK1 => ?_
  refine W.regionT [(0, true)] (by kernel_rfl) ?_
  refine Plan.assign_bool rfl rfl ?_
  refine Plan.nil ?_
  refine hK1 _ _ ?_; clear hK1
  refine W.seq_k fun K2 hK2 => ?_
  refine W.seq_k fun K3 hK3 => ?_
  refine W.regionT [(0, false), (1, true)] (by kernel_rfl) ?_
  obtain ⟨x_5, hr4, hR⟩ := hR
  refine Plan.call (vs := []) rfl FShaKnown.call17 rfl (lethelaw02_moves_ok (iG0 := iG0 + 0) hG0 (iG1 := iG1 + 0) hG1 hr4 HST) ?_
  rintro _ w6 ⟨rfl, h6⟩
  refine ⟨_, rfl, .inl ⟨PIn.keep PIn.nil h6, ?_⟩⟩
  refine Plan.not rfl rfl ?_
  refine Plan.nil ?_
  refine hK3 _ _ ?_; clear hK3
  by_cases hc7 : x_5 = true
  ·
    replace hR := ifT hR hc7
    refine W.condF (congrArg Value.bool (congrArg Bool.not hc7)) ?_
    refine W.skip ?_
    refine hK2 _ _ ?_; clear hK2
    refine W.seq_k fun K8 hK8 => ?_
    refine W.seq_k fun K9 hK9 => ?_
    refine W.regionT [(0, false), (1, true), (2, true)] (by kernel_rfl) ?_
    obtain ⟨x_11, hr10, hR⟩ := hR
    refine Plan.call (vs := [.slice none 0 0]) rfl FShaKnown.call21 rfl (sha_Sum_ok (iG0 := iG0 + 0) hG0 (iG1 := iG1 + 0) hG1 (Bss.nil 0) hr10 h6) ?_
    rintro _ w12 ⟨rfl, h12⟩
    refine ⟨_, rfl, .inl ⟨PIn.keep PIn.nil h12, ?_⟩⟩
    refine Plan.buildArr (ps := [(32, fun q => VU .u8 ((lit [227#8, 176#8, 196#8, 66#8, 152#8, 252#8, 28#8, 20#8, 154#8, 251#8, 244#8, 200#8, 153#8, 111#8, 185#8, 36#8, 39#8, 174#8, 65#8, 228#8, 100#8, 155#8, 147#8, 76#8, 164#8, 149#8, 153#8, 27#8, 120#8, 82#8, 184#8, 85#8]) q))]) FShaKnown.arr32 FShaKnown.z32 rfl rfl (by kernel_rfl) ?_
    refine Plan.neArrV (b := (eqB 32 x_11 (lit [227#8, 176#8, 196#8, 66#8, 152#8, 252#8, 28#8, 20#8, 154#8, 251#8, 244#8, 200#8, 153#8, 111#8, 185#8, 36#8, 39#8, 174#8, 65#8, 228#8, 100#8, 155#8, 147#8, 76#8, 164#8, 149#8, 153#8, 27#8, 120#8, 82#8, 184#8, 85#8]))) FShaKnown.arrI32 rfl rfl rfl rfl ?_
    refine Plan.nil ?_
    refine hK9 _ _ ?_; clear hK9
    by_cases hc13 : (eqB 32 x_11 (lit [227#8, 176#8, 196#8, 66#8, 152#8, 252#8, 28#8, 20#8, 154#8, 251#8, 244#8, 200#8, 153#8, 111#8, 185#8, 36#8, 39#8, 174#8, 65#8, 228#8, 100#8, 155#8, 147#8, 76#8, 164#8, 149#8, 153#8, 27#8, 120#8, 82#8, 184#8, 85#8])) = true
    ·
      replace hR := ifT hR hc13
      refine W.condF (congrArg Value.bool (congrArg Bool.not hc13)) ?_
      refine W.skip ?_
      refine hK8 _ _ ?_; clear hK8
      refine W.seq_k fun K14 hK14 => ?_
      refine W.seq_k fun K15 hK15 => ?_
      refine W.regionT [(0, false), (1, false), (2, false), (3, false), (4, true), (5, true)] (by kernel_rfl) ?_
      refine Plan.constBytesO PIn.nil h12 (f := fun q => VU .u8 (lit ([97#8, 98#8, 99#8] : List Byte) q)) FShaKnown.slu22 FShaKnown.u5 FShaKnown.sz5 FShaKnown.zv5 (by decide) (by decide) rfl (fun _ => rfl) (fun _ => rfl) rfl (by kernel_rfl) fun b16 w16 hb16 h16 => ?_
      refine Plan.buildSlice h16 (ps := [(1, fun i => .slice ((fun i => ([some ⟨b16, 0, none⟩] : List (Option Addr)).getD i none) i) ((fun i => ([3] : List Nat).getD i 0) i) ((fun i => ([3] : List Nat).getD i 0) i))]) FShaKnown.slu75 FShaKnown.sz22 FShaKnown.zv22 (by decide) (by decide) rfl rfl rfl (EffO.keep PIn.nil) fun b18 w18 hb18 h18 => ?_
      simp only [rngs, List.cons_append, List.nil_append] at h18
      obtain ⟨x_20, hr19, hR⟩ := hR
      refine Plan.call (vs := [.slice (some ⟨b18, 0, none⟩) 1 1]) rfl FShaKnown.call21 rfl (sha_Sum_ok (iG0 := iG0 + 2) hG0 (iG1 := iG1 + 2) hG1 (by exact (Bss.of 0 rfl rfl (fun i hi => match i, hi with | 0, _ => ⟨_, (Bx.arr0 (n := 3) (cc := 3) 1 rfl (by omega) (by omega))⟩ | k + 1, hk => absurd hk (by omega)))) hr19 h18) ?_
      rintro _ w21 ⟨rfl, h21⟩
      refine ⟨_, rfl, .inl ⟨PIn.keep PIn.nil h21, ?_⟩⟩
      refine Plan.buildArr (ps := [(32, fun q => VU .u8 ((lit [186#8, 120#8, 22#8, 191#8, 143#8, 1#8, 207#8, 234#8, 65#8, 65#8, 64#8, 222#8, 93#8, 174#8, 34#8, 35#8, 176#8, 3#8, 97#8, 163#8, 150#8, 23#8, 122#8, 156#8, 180#8, 16#8, 255#8, 97#8, 242#8, 0#8, 21#8, 173#8]) q))]) FShaKnown.arr32 FShaKnown.z32 rfl rfl (by kernel_rfl) ?_
      refine Plan.neArrV (b := (eqB 32 x_20 (lit [186#8, 120#8, 22#8, 191#8, 143#8, 1#8, 207#8, 234#8, 65#8, 65#8, 64#8, 222#8, 93#8, 174#8, 34#8, 35#8, 176#8, 3#8, 97#8, 163#8, 150#8, 23#8, 122#8, 156#8, 180#8, 16#8, 255#8, 97#8, 242#8, 0#8, 21#8, 173#8]))) FShaKnown.arrI32 rfl rfl rfl rfl ?_
      refine Plan.nil ?_
      refine hK15 _ _ ?_; clear hK15
      by_cases hc22 : (eqB 32 x_20 (lit [186#8, 120#8, 22#8, 191#8, 143#8, 1#8, 207#8, 234#8, 65#8, 65#8, 64#8, 222#8, 93#8, 174#8, 34#8, 35#8, 176#8, 3#8, 97#8, 163#8, 150#8, 23#8, 122#8, 156#8, 180#8, 16#8, 255#8, 97#8, 242#8, 0#8, 21#8, 173#8])) = true
      ·
        replace hR := ifT hR hc22
        refine W.condF (congrArg Value.bool (congrArg Bool.not hc22)) ?_
        refine W.skip ?_
        refine hK14 _ _ ?_; clear hK14
        refine W.seq_k fun K23 hK23 => ?_
        refine W.regionT [(0, false), (1, true)] (by kernel_rfl) ?_
        obtain ⟨x_25, x_26, x_27, hr24, hR⟩ := hR
        refine Plan.call (vs := []) rfl FShaKnown.call23 rfl (sha_New_ok (iG1 := iG1 + 2) hG1 hr24 h21) ?_
        rintro _ w29 ⟨b0_28, rfl, h29⟩
        refine ⟨_, rfl, .inl ⟨PIn.keep PIn.nil h29, ?_⟩⟩
        refine Plan.assign_ptr rfl rfl ?_
        refine Plan.nil ?_
        refine hK23 _ _ ?_; clear hK23
        refine W.seq_k fun K30 hK30 => ?_
        refine W.seq_k fun K31 hK31 => ?_
        refine W.regionT [(0, true), (1, true)] (by kernel_rfl) ?_
        refine Plan.move_ptr rfl rfl ?_
        refine Plan.eqNil (b := false) FShaKnown.ptr37 rfl rfl rfl rfl ?_
        refine Plan.nil ?_
        refine hK31 _ _ ?_; clear hK31
        refine W.condF rfl ?_
        refine W.skip ?_
        refine hK30 _ _ ?_; clear hK30
        refine W.seq_k fun K32 hK32 => ?_
        refine W.regionT [(0, false), (1, true)] (by kernel_rfl) ?_
        refine Plan.makeO (len := 1000) (c := 1000) h29 FShaKnown.el22 rfl rfl rfl (by omega) (by omega) (fun _ => EffO.keep PIn.nil) fun b33 w33 hb33 ho33 h33 => ?_
        refine Plan.assign_slice rfl rfl ?_
        refine Plan.nil ?_
        refine hK32 _ _ ?_; clear hK32
        refine W.seq_k fun K34 hK34 => ?_
        refine W.seq_k fun K35 hK35 => ?_
        refine W.regionT [(0, true)] (by kernel_rfl) ?_
        refine Plan.assign_int rfl rfl ?_
        refine Plan.nil ?_
        refine hK35 _ _ ?_; clear hK35
        obtain ⟨a53, hI54, hR054⟩ := hR
        refine W.cutN (fun e w => ∃ y_a53 : List Byte, a53 = y_a53 ∧ ∃ aa53 : Option Addr, ∃ pa53 : Option Nat, ∃ ca53 : Nat, ∃ Fa53 : Nat → Byte, EnvHas e [(1, .pointer (some ⟨b0_28, 0, none⟩)), (2, .slice aa53 ((List.replicate 1000 0#8).length) ca53)] ∧ St B w0 (⟨pa53, 0, ca53, fun q => VU .u8 (Fa53 q), true⟩ :: ⟨some b0_28, 0, 8, fun q => VU .u32 (x_25 q), true⟩ :: ⟨some b0_28, 8, 64, fun q => VU .u8 (x_26 q), true⟩ :: ⟨some b0_28, 72, 1, fun _ => VN x_27, true⟩ :: L) w ∧ Ow aa53 pa53 ((List.replicate 1000 0#8).length) ca53 Fa53 y_a53) ?_ ?_
        ·
          refine W.block ?_
          have h55 := St.pickT (C := [_, _, _, _, _, _]) h33 [0, 1, 2, 3] (by decide)
          simp only [pick, List.filterMap_cons, List.filterMap_nil, List.getElem?_cons_zero, List.getElem?_cons_succ, List.cons_append, List.nil_append] at h55
          refine W.iter hI54 (fun (s54 : ((List Byte) × Nat)) e w => ∃ aa51 : Option Addr, ∃ pa51 : Option Nat, ∃ ca51 : Nat, ∃ Fa51 : Nat → Byte, EnvHas e [(1, .pointer (some ⟨b0_28, 0, none⟩)), (2, .slice aa51 ((List.replicate 1000 0#8).length) ca51), (3, VN s54.2)] ∧ St B w0 (⟨pa51, 0, ca51, fun q => VU .u8 (Fa51 q), true⟩ :: ⟨some b0_28, 0, 8, fun q => VU .u32 (x_25 q), true⟩ :: ⟨some b0_28, 8, 64, fun q => VU .u8 (x_26 q), true⟩ :: ⟨some b0_28, 72, 1, fun _ => VN x_27, true⟩ :: L) w ∧ Ow aa51 pa51 ((List.replicate 1000 0#8).length) ca51 Fa51 s54.1) ⟨some ⟨b33, 0, none⟩, some b33, 1000, (fun _ => 0#8), (EnvHas.cons rfl (EnvHas.cons rfl (EnvHas.cons rfl EnvHas.nil))), h55, ho33⟩ ?_
          rintro ⟨a51, i_52⟩ o54 hR hx54 ev56 wl56 ⟨aa51, pa51, ca51, Fa51, he56, h56, ha51⟩
          obtain ⟨ev56, rfl⟩ := he56.open
          unfold lethelaw02_ShaKnown_l0 at hR
          refine W.seq_k fun K57 hK57 => ?_
          refine W.seq_k fun K58 hK58 => ?_
          refine W.regionT [(0, true), (1, true)] (by kernel_rfl) ?_
          refine Plan.move_int rfl rfl ?_
          refine Plan.cmpP (a := (((i_52 : Nat) : Int) : Int)) (b := (1000 : Int)) (p := i_52 < 1000) rfl rfl rfl rfl icmp_ltN ?_
          refine Plan.nil ?_
          refine hK58 _ _ ?_; clear hK58
          by_cases hc59 : i_52 < 1000
          ·
            replace hR := ifT hR hc59
            refine W.condT (congrArg Value.bool (decide_eq_true hc59)) ?_
            refine W.skip ?_
            refine hK57 _ _ ?_; clear hK57
            refine W.seq_k fun K60 hK60 => ?_
            refine W.block ?_
            refine W.regionT [(0, true), (1, true), (2, true), (3, false)] (by kernel_rfl) ?_
            refine Plan.move_slice rfl rfl ?_
            refine Plan.move_int rfl rfl ?_
            obtain ⟨hc61, hR⟩ := hR
            refine Plan.idxVS (j := i_52) h56 (ha51.bx 0 rfl) FShaKnown.sl22 rfl rfl rfl hc61 ?_
            refine Plan.storeO (j := i_52) (Y := 97#8) h56 0 ha51 rfl rfl rfl rfl hc61 FShaKnown.sz5 rfl fun w62 F62 ho62 h62 => ?_
            simp only [List.cons_append, List.nil_append, List.set_cons_zero, List.set_cons_succ] at h62
            have e62 : (a51.set i_52 (97#8)).length = a51.length := List.length_set
            refine Plan.nil ?_
            refine blockR_norm ?_
            refine hK60 _ _ ?_; clear hK60
            refine W.regionT [(0, true), (1, true), (2, true)] (by kernel_rfl) ?_
            refine Plan.move_int rfl rfl ?_
            refine Plan.addN (a := i_52) (b := 1) rfl rfl rfl (by omega) ?_
            refine Plan.assign_int rfl rfl ?_
            refine Plan.nil ?_
            exact iterR_norm ⟨_, hR, aa51, pa51, ca51, F62, (EnvHas.cons rfl (EnvHas.cons rfl (EnvHas.cons rfl EnvHas.nil))), h62, (show Ow _ _ ((List.replicate 1000 0#8).length) _ _ _ from ho62)⟩
          ·
            replace hR := ifF hR hc59
            refine W.condF (congrArg Value.bool (decide_eq_false hc59)) ?_
            refine W.exit (thenR_exit (iterR_exit (blockR_here ?_)))
            exact ⟨a51, (hx54 _ hR).symm, aa51, pa51, ca51, Fa51, (EnvHas.cons rfl (EnvHas.cons rfl EnvHas.nil)), h56, ha51⟩
        ·
          rintro ev63 wl63 ⟨y_a53, hy63, aa53, pa53, ca53, Fa53, he63, h63, ha53⟩
          obtain ⟨ev63, rfl⟩ := he63.open
          subst hy63
          replace hR := hR054
          refine hK34 _ _ ?_; clear hK34
          refine W.seq_k fun K64 hK64 => ?_
          refine W.seq_k fun K65 hK65 => ?_
          refine W.regionT [(0, true)] (by kernel_rfl) ?_
          refine Plan.assign_int rfl rfl ?_
          refine Plan.nil ?_
          refine hK65 _ _ ?_; clear hK65
          obtain ⟨m97, m98, m99, hI100, hR0100⟩ := hR
          refine W.cutN (fun e w => ∃ y_m97 : Nat → BitVec 32, ∃ y_m98 : Nat → BitVec 8, ∃ y_m99 : Int, (m97, m98, m99) = (y_m97, y_m98, y_m99) ∧ EnvHas e [(1, .pointer (some ⟨b0_28, 0, none⟩))] ∧ St B w0 (⟨some b0_28, 0, 8, fun q => VU .u32 (y_m97 q), true⟩ :: ⟨some b0_28, 8, 64, fun q => VU .u8 (y_m98 q), true⟩ :: ⟨some b0_28, 72, 1, fun _ => .int .i64 y_m99, true⟩ :: L) w) ?_ ?_
          ·
            refine W.block ?_
            refine W.iter hI100 (fun (s100 : ((List Byte) × Nat × (Nat → BitVec 32) × (Nat → BitVec 8) × Int)) e w => ∃ aa92 : Option Addr, ∃ pa92 : Option Nat, ∃ ca92 : Nat, ∃ Fa92 : Nat → Byte, EnvHas e [(1, .pointer (some ⟨b0_28, 0, none⟩)), (2, .slice aa92 ((List.replicate 1000 0#8).length) ca92), (4, VN s100.2.1)] ∧ St B w0 (⟨pa92, 0, ca92, fun q => VU .u8 (Fa92 q), true⟩ :: ⟨some b0_28, 0, 8, fun q => VU .u32 (s100.2.2.1 q), true⟩ :: ⟨some b0_28, 8, 64, fun q => VU .u8 (s100.2.2.2.1 q), true⟩ :: ⟨some b0_28, 72, 1, fun _ => .int .i64 s100.2.2.2.2, true⟩ :: L) w ∧ Ow aa92 pa92 ((List.replicate 1000 0#8).length) ca92 Fa92 s100.1) ⟨aa53, pa53, ca53, Fa53, (EnvHas.cons rfl (EnvHas.cons rfl (EnvHas.cons rfl EnvHas.nil))), h63, ha53⟩ ?_
            rintro ⟨a92, i_93, m94, m95, m96⟩ o100 hR hx100 ev101 wl101 ⟨aa92, pa92, ca92, Fa92, he101, h101, ha92⟩
            obtain ⟨ev101, rfl⟩ := he101.open
            unfold lethelaw02_ShaKnown_l1 at hR
            refine W.seq_k fun K102 hK102 => ?_
            refine W.seq_k fun K103 hK103 => ?_
            refine W.regionT [(0, true), (1, true)] (by kernel_rfl) ?_
            refine Plan.move_int rfl rfl ?_
            refine Plan.cmpP (a := (((i_93 : Nat) : Int) : Int)) (b := (1000 : Int)) (p := i_93 < 1000) rfl rfl rfl rfl icmp_ltN ?_
            refine Plan.nil ?_
            refine hK103 _ _ ?_; clear hK103
            by_cases hc104 : i_93 < 1000
            ·
              replace hR := ifT hR hc104
              refine W.condT (congrArg Value.bool (decide_eq_true hc104)) ?_
              refine W.skip ?_
              refine hK102 _ _ ?_; clear hK102
              refine W.seq_k fun K105 hK105 => ?_
              refine W.block ?_
              refine W.regionT [(0, true), (1, true), (2, false)] (by kernel_rfl) ?_
              refine Plan.move_ptr rfl rfl ?_
              refine Plan.move_slice rfl rfl ?_
              have h106 := St.pickT (C := [_, _, _, _]) h101 [1, 2, 3, 0] (by decide)
              simp only [pick, List.filterMap_cons, List.filterMap_nil, List.getElem?_cons_zero, List.getElem?_cons_succ, List.cons_append, List.nil_append] at h106
              obtain ⟨x_108, x_109, x_110, hr107, hR⟩ := hR
              refine Plan.call (vs := [.pointer (some ⟨b0_28, 0, none⟩), .slice aa92 ((List.replicate 1000 0#8).length) ca92]) rfl FShaKnown.call25 rfl (sha_Hash_Write_ok (iG0 := iG0 + 1) hG0 (by exact (ha92.bx 0 rfl)) hr107 h106) ?_
              rintro _ w111 ⟨rfl, h111⟩
              refine ⟨_, rfl, .inl ⟨PIn.keep PIn.nil h111, ?_⟩⟩
              refine Plan.nil ?_
              refine blockR_norm ?_
              refine hK105 _ _ ?_; clear hK105
              refine W.regionT [(0, true), (1, true), (2, true)] (by kernel_rfl) ?_
              refine Plan.move_int rfl rfl ?_
              refine Plan.addN (a := i_93) (b := 1) rfl rfl rfl (by omega) ?_
              refine Plan.assign_int rfl rfl ?_
              refine Plan.nil ?_
              have h112 := St.pickT (C := [_, _, _, _]) h111 [3, 0, 1, 2] (by decide)
              simp only [pick, List.filterMap_cons, List.filterMap_nil, List.getElem?_cons_zero, List.getElem?_cons_succ, List.cons_append, List.nil_append] at h112
              exact iterR_norm ⟨_, hR, aa92, pa92, ca92, Fa92, (EnvHas.cons rfl (EnvHas.cons rfl (EnvHas.cons rfl EnvHas.nil))), h112, ha92⟩
            ·
              replace hR := ifF hR hc104
              refine W.condF (congrArg Value.bool (decide_eq_false hc104)) ?_
              refine W.exit (thenR_exit (iterR_exit (blockR_here ?_)))
              have h113 := St.pickT (C := [_, _, _, _]) h101 [1, 2, 3] (by decide)
              simp only [pick, List.filterMap_cons, List.filterMap_nil, List.getElem?_cons_zero, List.getElem?_cons_succ, List.cons_append, List.nil_append] at h113
              exact ⟨m94, m95, m96, (hx100 _ hR).symm, (EnvHas.cons rfl EnvHas.nil), h113⟩
          ·
            rintro ev114 wl114 ⟨y_m97, y_m98, y_m99, hy114, he114, h114⟩
            obtain ⟨ev114, rfl⟩ := he114.open
            cases hy114
            replace hR := hR0100
            refine hK64 _ _ ?_; clear hK64
            refine W.seq_k fun K115 hK115 => ?_
            refine W.regionT [(0, true), (1, false), (2, true), (3, true), (4, true), (5, false), (6, true), (7, true), (8, true), (9, true)] (by kernel_rfl) ?_
            refine Plan.move_ptr rfl rfl ?_
            obtain ⟨x_117, hr116, hR⟩ := hR
            refine Plan.call (vs := [.pointer (some ⟨b0_28, 0, none⟩)]) rfl FShaKnown.call26 rfl (sha_Hash_Len_ok  hr116 h114) ?_
            rintro _ w118 ⟨rfl, h118⟩
            refine ⟨_, rfl, .inl ⟨PIn.keep PIn.nil h118, ?_⟩⟩
            by_cases hc119 : x_117 = 1000000
            ·
              replace hR := ifT hR hc119
              refine Plan.cmpV (a := (x_117 : Int)) (b := (1000000 : Int)) (p := x_117 = 1000000) (v := true) rfl rfl rfl rfl icmp_eq (decide_eq_true hc119) ?_
              refine Plan.move_bool rfl rfl ?_
              refine Plan.move_ptr rfl rfl ?_
              obtain ⟨x_121, hr120, hR⟩ := hR
              refine Plan.call (vs := [.pointer (some ⟨b0_28, 0, none⟩)]) rfl FShaKnown.call27 rfl (sha_Hash_Sum_ok (iG0 := iG0 + 0) hG0 hr120 h118) ?_
              rintro _ w122 ⟨rfl, h122⟩
              refine ⟨_, rfl, .inl ⟨PIn.keep PIn.nil h122, ?_⟩⟩
              refine Plan.buildArr (ps := [(32, fun q => VU .u8 ((lit [205#8, 199#8, 110#8, 92#8, 153#8, 20#8, 251#8, 146#8, 129#8, 161#8, 199#8, 226#8, 132#8, 215#8, 62#8, 103#8, 241#8, 128#8, 154#8, 72#8, 164#8, 151#8, 32#8, 14#8, 4#8, 109#8, 57#8, 204#8, 199#8, 17#8, 44#8, 208#8]) q))]) FShaKnown.arr32 FShaKnown.z32 rfl rfl (by kernel_rfl) ?_
              refine Plan.eqArrV (b := (eqB 32 x_121 (lit [205#8, 199#8, 110#8, 92#8, 153#8, 20#8, 251#8, 146#8, 129#8, 161#8, 199#8, 226#8, 132#8, 215#8, 62#8, 103#8, 241#8, 128#8, 154#8, 72#8, 164#8, 151#8, 32#8, 14#8, 4#8, 109#8, 57#8, 204#8, 199#8, 17#8, 44#8, 208#8]))) FShaKnown.arrI32 rfl rfl rfl rfl ?_
              refine Plan.pickTb rfl rfl rfl ?_
              refine Plan.assign_bool rfl rfl ?_
              refine Plan.nil ?_
              refine hK115 _ _ ?_; clear hK115
              refine W.ret (finR_ret ?_)
              have h123 := St.pickT (C := [_, _, _]) h122 [] (by decide)
              simp only [pick, List.filterMap_cons, List.filterMap_nil, List.getElem?_cons_zero, List.getElem?_cons_succ, List.cons_append, List.nil_append] at h123
              subst r
              refine RetOk.mk (.tmp_bool rfl .nil) ?_
              exact ⟨rfl, h123⟩
            ·
              replace hR := ifF hR hc119
              refine Plan.cmpV (a := (x_117 : Int)) (b := (1000000 : Int)) (p := x_117 = 1000000) (v := false) rfl rfl rfl rfl icmp_eq (decide_eq_false hc119) ?_
              refine Plan.move_bool rfl rfl ?_
              refine Plan.passed rfl ?_
              refine Plan.passed rfl ?_
              refine Plan.passed rfl ?_
              refine Plan.passed rfl ?_
              refine Plan.pickFb rfl rfl rfl ?_
              refine Plan.assign_bool rfl rfl ?_
              refine Plan.nil ?_
              refine hK115 _ _ ?_; clear hK115
              refine W.ret (finR_ret ?_)
              have h124 := St.pickT (C := [_, _, _]) h118 [] (by decide)
              simp only [pick, List.filterMap_cons, List.filterMap_nil, List.getElem?_cons_zero, List.getElem?_cons_succ, List.cons_append, List.nil_append] at h124
              subst r
              refine RetOk.mk (.tmp_bool rfl .nil) ?_
              exact ⟨rfl, h124⟩
      ·
        replace hR := ifF hR hc22
        refine W.condT (congrArg Value.bool (congrArg Bool.not (Bool.eq_false_iff.2 hc22))) ?_
        refine W.seq_k fun K125 hK125 => ?_
        refine W.regionT [(0, true)] (by kernel_rfl) ?_
        refine Plan.assign_bool rfl rfl ?_
        refine Plan.nil ?_
        refine hK125 _ _ ?_; clear hK125
        refine W.ret (thenR_ret (finR_ret ?_))
        have h126 := St.pickT (C := [_, _]) h21 [] (by decide)
        simp only [pick, List.filterMap_cons, List.filterMap_nil, List.getElem?_cons_zero, List.getElem?_cons_succ, List.cons_append, List.nil_append] at h126
        subst r
        refine RetOk.mk (.tmp_bool rfl .nil) ?_
        exact ⟨rfl, h126⟩
    ·
      replace hR := ifF hR hc13
      refine W.condT (congrArg Value.bool (congrArg Bool.not (Bool.eq_false_iff.2 hc13))) ?_
      refine W.seq_k fun K127 hK127 => ?_
      refine W.regionT [(0, true)] (by kernel_rfl) ?_
      refine Plan.assign_bool rfl rfl ?_
      refine Plan.nil ?_
      refine hK127 _ _ ?_; clear hK127
      refine W.ret (thenR_ret (finR_ret ?_))
      subst r
      refine RetOk.mk (.tmp_bool rfl .nil) ?_
      exact ⟨rfl, h12⟩
  ·
    replace hR := ifF hR hc7
    refine W.condT (congrArg Value.bool (congrArg Bool.not (Bool.eq_false_iff.2 hc7))) ?_
    refine W.seq_k fun K128 hK128 => ?_
    refine W.regionT [(0, true)] (by kernel_rfl) ?_
    refine Plan.assign_bool rfl rfl ?_
    refine Plan.nil ?_
    refine hK128 _ _ ?_; clear hK128
    refine W.ret (thenR_ret (finR_ret ?_))
    subst r
    refine RetOk.mk (.tmp_bool rfl .nil) ?_
    exact ⟨rfl, h6⟩

end Go.Proofs.YtjdgbahjpdopbaaDoor
