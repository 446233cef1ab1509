/-
 WALKS of the package's functions, printed by this session's own program (auto.py).
-/
import Derived.Test.YthjkmhdgenmnoaaDoorProg
import Derived.Test.YthjkmhdgenmnoaaDoorEc
import Derived.Test.YthjkmhdgenmnoaaDoorRLaw05
import Derived.Test.YthjkmhdgenmnoaaDoorEls
import Derived.Test.YthjkmhdgenmnoaaDoorWRef05
import Derived.Test.YthjkmhdgenmnoaaDoorWSeal
namespace Go.Proofs.YthjkmhdgenmnoaaDoor
set_option linter.unusedSimpArgs false
set_option linter.unusedVariables false
set_option linter.unusedSectionVars false
set_option maxRecDepth 8000
set_option maxHeartbeats 1000000
open Go Go.LW
theorem FLaw05.mixed : Tryd.prog.follows .mixedOrders = true := by kernel_rfl
theorem FLaw05.fld45_2 : fieldB Tryd.prog 45 2 33 = true := by kernel_rfl
theorem FLaw05.sc24 : scalarT Tryd.prog 24 = true := by kernel_rfl
theorem FLaw05.fld45_3 : fieldB Tryd.prog 45 3 34 = true := by kernel_rfl
theorem FLaw05.el24 : elD Tryd.prog 24 = some (1, 1, some (VU .u8 0#8)) := by kernel_rfl
theorem FLaw05.sl24 : slB Tryd.prog 24 1 = true := by kernel_rfl
theorem FLaw05.zv5 : (Tryd.prog.info? 5).bind (·.zero) = some (VU .u8 0#8) := by kernel_rfl
theorem FLaw05.slu24 : Tryd.prog.underlying 24 = some (.slice 5) := by kernel_rfl
theorem FLaw05.sz5 : szT Tryd.prog 5 1 = true := by kernel_rfl
theorem FLaw05.call27 : callB Tryd.prog 27 = true := by kernel_rfl
theorem FLaw05.isl24 : ∃ el, Tryd.prog.underlying 24 = some (.slice el) := ⟨5, by kernel_rfl⟩
theorem FLaw05.fld45_0 : fieldB Tryd.prog 45 0 0 = true := by kernel_rfl
theorem FLaw05.sc3 : scalarT Tryd.prog 3 = true := by kernel_rfl
theorem FLaw05.fld45_1 : fieldB Tryd.prog 45 1 1 = true := by kernel_rfl
theorem FLaw05.agg23 : aggT Tryd.prog 23 32 = true := by kernel_rfl
theorem FLaw05.u5 : Tryd.prog.underlying 5 = some (.int .u8) := by kernel_rfl
theorem FLaw05.zv24 : (Tryd.prog.info? 24).bind (·.zero) = some (.slice none 0 0) := by kernel_rfl
theorem FLaw05.slu40 : Tryd.prog.underlying 40 = some (.slice 24) := by kernel_rfl
theorem FLaw05.sz24 : szT Tryd.prog 24 1 = true := by kernel_rfl
theorem FLaw05.isl40 : ∃ el, Tryd.prog.underlying 40 = some (.slice el) := ⟨24, by kernel_rfl⟩
theorem FLaw05.sl40 : slB Tryd.prog 40 1 = true := by kernel_rfl
theorem FLaw05.sc5 : scalarT Tryd.prog 5 = true := by kernel_rfl
theorem FLaw05.some3 : (Tryd.prog.underlying 3).isSome = true := by kernel_rfl
theorem FLaw05.call10 : callB Tryd.prog 10 = true := by kernel_rfl
theorem FLaw05.call28 : callB Tryd.prog 28 = true := by kernel_rfl
theorem FLaw05.str9 : Tryd.prog.underlying 9 = some .string := by kernel_rfl
theorem FLaw05.call14 : callB Tryd.prog 14 = true := by kernel_rfl
theorem FLaw05.fld42_0 : fieldB Tryd.prog 42 0 0 = true := by kernel_rfl
theorem FLaw05.sc40 : scalarT Tryd.prog 40 = true := by kernel_rfl
theorem FLaw05.el40 : elD Tryd.prog 40 = some (1, 24, some (.slice none 0 0)) := by kernel_rfl
theorem FLaw05.sz40 : szT Tryd.prog 40 1 = true := by kernel_rfl
theorem FLaw05.fld42_1 : fieldB Tryd.prog 42 1 1 = true := by kernel_rfl
theorem FLaw05.call29 : callB Tryd.prog 29 = true := by kernel_rfl
theorem FLaw05.call12 : callB Tryd.prog 12 = true := by kernel_rfl
theorem FLaw05.call30 : callB Tryd.prog 30 = true := by kernel_rfl
theorem FLaw05.fld45_4 : fieldB Tryd.prog 45 4 35 = true := by kernel_rfl
theorem FLaw05.call18 : callB Tryd.prog 18 = true := by kernel_rfl
theorem FLaw05.call31 : callB Tryd.prog 31 = true := by kernel_rfl
theorem FLaw05.call32 : callB Tryd.prog 32 = true := by kernel_rfl
theorem lethelaw05_Room_ok {B : Nat} {w0 w : World} {L : List Rg} {b1 : List Byte} {ab1 : Option Addr} {nb1 cb1 ib1 : Nat} (hb1 : Bx L ib1 ab1 nb1 cb1 b1) {r : (List Byte)} (hR : lethelaw05_Room b1 r) (HST : St B w0 (L) w) :
  Calls Tryd.prog 27 #[.slice ab1 nb1 cb1] w fun e w' => ∃ ay0 : Option Addr, ∃ py0 : Option Nat, ∃ ny0 : Nat, ∃ cy0 : Nat, ∃ Fy0 : Nat → Byte, e = .returned (.slice ay0 ny0 cy0) ∧ St B w0 (⟨py0, 0, cy0, fun q => VU .u8 (Fy0 q), true⟩ :: L) w' ∧ Ow ay0 py0 ny0 cy0 Fy0 r := by
 refine W.enter 7 Tryd.func27 rfl rfl rfl ?_
 unfold lethelaw05_Room at hR
 have eb1 := hb1.hl; subst eb1
 refine W.seq_k fun _ k2 => W.regionT [(0, true)] (by kernel_rfl) ?_
 refine Plan.assign_slice rfl rfl <| Plan.nil (k2 _ _ ?_); clear k2
 refine W.seq_k fun _ k3 => W.regionT [(0, true), (1, false), (2, false), (3, false), (4, true)] (by kernel_rfl) ?_
 refine Plan.move_slice rfl rfl ?_
 have h4 := HST.nilR
 obtain ⟨hc6, hR⟩ := hR
 refine Plan.appendO (X := ([] : List Byte)) (Y := b1) h4 0 Ow.nil FLaw05.el24 FLaw05.sl24 rfl rfl rfl rfl (hb1.app [_]) hc6 (fun _ => EffO.keep PIn.nil) fun a5 pb5 cap5 F5 w5 ho5 h5 => ?_
 simp only [zca, zna, zsz, zss] at h5
 refine Plan.buildSlice h5 (ps := [(3, fun q => VU .u8 (lit ([209#8, 210#8, 211#8] : List Byte) q))]) FLaw05.slu24 FLaw05.sz5 FLaw05.zv5 (by decide) (by decide) rfl rfl (by kernel_rfl) (EffO.keep PIn.nil) fun b7 w7 hb7 h7 => ?_
 simp only [rngs, List.cons_append, List.nil_append] at h7
 have ho7 : Ow (some ⟨b7, 0, none⟩) (some b7) ([209#8, 210#8, 211#8] : List Byte).length 3 (lit ([209#8, 210#8, 211#8] : List Byte)) ([209#8, 210#8, 211#8] : List Byte) := ⟨.inr ⟨b7, rfl, rfl⟩, Nat.le_refl _, rfl, fun q _ => rfl⟩
 obtain ⟨hc9, hR⟩ := hR
 refine Plan.appendO (X := (([] : List Byte) ++ b1)) (Y := ([209#8, 210#8, 211#8] : List Byte)) h7 1 ho5 FLaw05.el24 FLaw05.sl24 rfl rfl rfl rfl (ho7.bx 0 rfl) hc9 (fun _ => EffO.keep PIn.nil) fun a8 pb8 cap8 F8 w8 ho8 h8 => ?_
 simp only [zca, zna, zsz, zss] at h8
 refine Plan.assign_slice rfl rfl <| Plan.nil (k3 _ _ ?_); clear k3
 refine W.ret (finR_ret ?_)
 have h10 := St.pickT (C := [_, _]) h8 [1] (by decide)
 simp only [pick, zfc, zfn, zgz, zgs, zca, zna] at h10
 subst r
 refine RetOk.mk (.tmp_slice rfl .nil) ?_
 exact ⟨a8, pb8, ((([] : List Byte) ++ b1) ++ ([209#8, 210#8, 211#8] : List Byte)).length, cap8, F8, rfl, h10, ho8⟩
theorem lethelaw05_Eq_ok {B : Nat} {w0 w : World} {L : List Rg} {a1 : List Byte} {aa1 : Option Addr} {na1 ca1 ia1 : Nat} (ha1 : Bx L ia1 aa1 na1 ca1 a1) {b2 : List Byte} {ab2 : Option Addr} {nb2 cb2 ib2 : Nat} (hb2 : Bx L ib2 ab2 nb2 cb2 b2) {r : Bool} (hR : lethelaw05_Eq a1 b2 r) (HST : St B w0 (L) w) :
  Calls Tryd.prog 14 #[.slice aa1 na1 ca1, .slice ab2 nb2 cb2] w fun e w' => e = .returned (.bool r) ∧ St B w0 (L) w' := by
 refine W.enter 10 Tryd.func14 rfl rfl rfl ?_
 unfold lethelaw05_Eq at hR
 have ea1 := ha1.hl; subst ea1
 have eb2 := hb2.hl; subst eb2
 refine W.seq_k fun _ k3 => W.regionT [(0, true)] (by kernel_rfl) ?_
 refine Plan.assign_bool rfl rfl <| Plan.nil (k3 _ _ ?_); clear k3
 refine W.seq_k fun _ k4 => W.regionT [(0, true), (1, true), (2, true), (3, true), (4, true), (5, true)] (by kernel_rfl) ?_
 refine Plan.move_slice rfl rfl ?_
 refine Plan.toStrV HST ha1 FLaw05.slu24 FLaw05.u5 FLaw05.str9 rfl rfl fun r5 hr5 => ?_
 replace hr5 := or_un [] hr5
 refine Plan.move_slice rfl rfl ?_
 refine Plan.toStrV HST hb2 FLaw05.slu24 FLaw05.u5 FLaw05.str9 rfl rfl fun r6 hr6 => ?_
 replace hr6 := or_un [] hr6
 refine Plan.eqStrV (v := decide (a1 = b2)) rfl rfl rfl rfl <| Plan.assign_bool rfl rfl <| Plan.nil (k4 _ _ ?_); clear k4
 refine W.ret (finR_ret ?_)
 subst r
 refine RetOk.mk (.tmp_bool rfl .nil) ?_
 exact ⟨rfl, HST⟩
theorem lethelaw05_Book_Note_ok {B : Nat} {w0 w : World} {L : List Rg} {LP : List Rg} (hLP : ∀ r ∈ LP, r ∈ L) {bb1 : Nat} {bLists2 : List (List Byte)} {abLists2 : Option Addr} {pbLists2 : Option Nat} {nbLists2 cbLists2 : Nat} {FbLists2 : Nat → Value} (hbLists2 : LO (D24.at LP) [] abLists2 pbLists2 nbLists2 cbLists2 FbLists2 bLists2) {bWant3 : List (List Byte)} {abWant3 : Option Addr} {pbWant3 : Option Nat} {nbWant3 cbWant3 : Nat} {FbWant3 : Nat → Value} (hbWant3 : LO (D24.at LP) [] abWant3 pbWant3 nbWant3 cbWant3 FbWant3 bWant3) {l_4 : List Byte} {al_4 : Option Addr} {pl_4 : Option Nat} {nl_4 cl_4 : Nat} {Fl_4 : Nat → Byte} (hl_4 : Ow al_4 pl_4 nl_4 cl_4 Fl_4 l_4) {r : ((List (List Byte)) × (List (List Byte)))} (hR : lethelaw05_Book_Note bLists2 bWant3 l_4 r) (HST : St B w0 (⟨some bb1, 0, 1, fun _ => .slice abLists2 nbLists2 cbLists2, true⟩ :: ⟨pbLists2, 0, cbLists2 * 1, FbLists2, true⟩ :: ⟨some bb1, 1, 1, fun _ => .slice abWant3 nbWant3 cbWant3, true⟩ :: ⟨pbWant3, 0, cbWant3 * 1, FbWant3, true⟩ :: ⟨pl_4, 0, cl_4, fun q => VU .u8 (Fl_4 q), true⟩ :: L) w) :
  Calls Tryd.prog 29 #[.pointer (some ⟨bb1, 0, none⟩), .slice al_4 nl_4 cl_4] w fun e w' => ∃ C : List Rg, ∃ aqbLists2 : Option Addr, ∃ pqbLists2 : Option Nat, ∃ nqbLists2 : Nat, ∃ cqbLists2 : Nat, ∃ FqbLists2 : Nat → Value, ∃ aqbWant3 : Option Addr, ∃ pqbWant3 : Option Nat, ∃ nqbWant3 : Nat, ∃ cqbWant3 : Nat, ∃ FqbWant3 : Nat → Value, e = .returned (.tuple #[]) ∧ St B w0 (⟨some bb1, 0, 1, fun _ => .slice aqbLists2 nqbLists2 cqbLists2, true⟩ :: ⟨pqbLists2, 0, cqbLists2 * 1, FqbLists2, true⟩ :: ⟨some bb1, 1, 1, fun _ => .slice aqbWant3 nqbWant3 cqbWant3, true⟩ :: ⟨pqbWant3, 0, cqbWant3 * 1, FqbWant3, true⟩ :: (C ++ L)) w' ∧ LO (D24.at (C ++ LP)) [] aqbLists2 pqbLists2 nqbLists2 cqbLists2 FqbLists2 r.1 ∧ LO (D24.at (C ++ LP)) [] aqbWant3 pqbWant3 nqbWant3 cqbWant3 FqbWant3 r.2 := by
 refine W.enter 71 Tryd.func29 rfl rfl rfl ?_
 unfold lethelaw05_Book_Note at hR
 have hFr : Fr2 L LP L LP := Fr2.refl _ _
 have ebLists2 := hbLists2.hl; subst ebLists2
 have ebWant3 := hbWant3.hl; subst ebWant3
 have el_4 := hl_4.hl; subst el_4
 refine W.seq_k fun _ k5 => W.regionT [(0, true), (1, true), (2, true), (3, true), (4, true), (5, true), (6, true), (7, true)] (by kernel_rfl) ?_
 refine Plan.move_ptr rfl rfl <| Plan.nilCheck rfl rfl <| Plan.fieldAddr0 FLaw05.fld42_0 rfl rfl <| Plan.load0 HST 0 rfl rfl rfl (by omega) FLaw05.sc40 <| Plan.len FLaw05.isl40 rfl rfl ?_
 obtain ⟨hc6, hR⟩ := hR
 refine Plan.mulN (a := bLists2.length) (b := 29) rfl rfl rfl (by omega) ?_
 obtain ⟨hc7, hR⟩ := hR
 refine Plan.addN (a := (bLists2.length * 29)) (b := 7) rfl rfl rfl (by omega) <| Plan.assign_int rfl rfl <| Plan.nil (k5 _ _ ?_); clear k5
 refine W.seq_k fun _ k8 => W.regionT [(0, true)] (by kernel_rfl) ?_
 refine Plan.assign_slice rfl rfl <| Plan.nil (k8 _ _ ?_); clear k8
 refine W.seq_k fun _ k9 => W.seq_k fun _ k10 => ?_
 refine W.regionT [(0, true)] (by kernel_rfl) ?_
 refine Plan.assign_int rfl rfl <| Plan.nil (k10 _ _ ?_); clear k10
 have h51 := HST.nilR
 obtain ⟨l_48, want49, hI50, hR050⟩ := hR
 refine W.cutN (fun e w => ∃ y_l_48 : List Byte, ∃ y_want49 : List Byte, (l_48, want49) = (y_l_48, y_want49) ∧ ∃ al_48 : Option Addr, ∃ pl_48 : Option Nat, ∃ cl_48 : Nat, ∃ Fl_48 : Nat → Byte, ∃ awant49 : Option Addr, ∃ pwant49 : Option Nat, ∃ cwant49 : Nat, ∃ Fwant49 : Nat → Byte, EnvHas e [(0, .pointer (some ⟨bb1, 0, none⟩)), (1, .slice al_48 l_4.length cl_48), (4, VN ((bLists2.length * 29) + 7)), (5, .slice awant49 y_want49.length cwant49)] ∧ St B w0 (⟨pl_48, 0, cl_48, fun q => VU .u8 (Fl_48 q), true⟩ :: ⟨pwant49, 0, cwant49, fun q => VU .u8 (Fwant49 q), true⟩ :: ⟨some bb1, 0, 1, fun _ => .slice abLists2 bLists2.length cbLists2, true⟩ :: ⟨pbLists2, 0, cbLists2 * 1, FbLists2, true⟩ :: ⟨some bb1, 1, 1, fun _ => .slice abWant3 bWant3.length cbWant3, true⟩ :: ⟨pbWant3, 0, cbWant3 * 1, FbWant3, true⟩ :: L) w ∧ Ow al_48 pl_48 l_4.length cl_48 Fl_48 y_l_48 ∧ Ow awant49 pwant49 y_want49.length cwant49 Fwant49 y_want49) ?_ ?_
 ·
  refine W.block ?_
  have h52 := St.pickT (C := [_, _, _, _, _, _]) h51 [5, 0, 1, 2, 3, 4] (by decide)
  simp only [pick, zfc, zfn, zgz, zgs, zca, zna] at h52
  refine W.iter hI50 (fun (s50 : ((List Byte) × (List Byte) × Nat)) e w => ∃ al_44 : Option Addr, ∃ pl_44 : Option Nat, ∃ cl_44 : Nat, ∃ Fl_44 : Nat → Byte, ∃ awant45 : Option Addr, ∃ pwant45 : Option Nat, ∃ cwant45 : Nat, ∃ Fwant45 : Nat → Byte, EnvHas e [(0, .pointer (some ⟨bb1, 0, none⟩)), (1, .slice al_44 l_4.length cl_44), (4, VN ((bLists2.length * 29) + 7)), (5, .slice awant45 s50.2.1.length cwant45), (6, VN s50.2.2)] ∧ St B w0 (⟨pl_44, 0, cl_44, fun q => VU .u8 (Fl_44 q), true⟩ :: ⟨pwant45, 0, cwant45, fun q => VU .u8 (Fwant45 q), true⟩ :: ⟨some bb1, 0, 1, fun _ => .slice abLists2 bLists2.length cbLists2, true⟩ :: ⟨pbLists2, 0, cbLists2 * 1, FbLists2, true⟩ :: ⟨some bb1, 1, 1, fun _ => .slice abWant3 bWant3.length cbWant3, true⟩ :: ⟨pbWant3, 0, cbWant3 * 1, FbWant3, true⟩ :: L) w ∧ Ow al_44 pl_44 l_4.length cl_44 Fl_44 s50.1 ∧ Ow awant45 pwant45 s50.2.1.length cwant45 Fwant45 s50.2.1) ⟨al_4, pl_4, cl_4, Fl_4, none, none, 0, (fun _ => 0#8), (zer (zer (zer (zer (zer zen))))), h52, hl_4, Ow.nil⟩ ?_
  rintro ⟨l_44, want45, i_47⟩ o50 hR hx50 ev53 wl53 ⟨al_44, pl_44, cl_44, Fl_44, awant45, pwant45, cwant45, Fwant45, he53, h53, hl_44, hwant45⟩
  obtain ⟨ev53, rfl⟩ := he53.open
  unfold lethelaw05_Book_Note_l0 at hR
  refine W.seq_k fun _ k54 => W.seq_k fun _ k55 => ?_
  refine W.regionT [(0, true), (1, true), (2, true), (3, true)] (by kernel_rfl) ?_
  refine Plan.move_int rfl rfl <| Plan.move_slice rfl rfl <| Plan.len FLaw05.isl24 rfl rfl <| Plan.cmpP (a := (((i_47 : Nat) : Int) : Int)) (b := (((l_4.length : Nat) : Int) : Int)) (p := i_47 < l_4.length) rfl rfl rfl rfl icmp_ltN <| Plan.nil (k55 _ _ ?_); clear k55
  by_cases hc56 : i_47 < l_4.length
  ·
   replace hR := ifT hR hc56
   refine W.condT (congrArg Value.bool (decide_eq_true hc56)) ?_
   refine W.skip ?_
   refine k54 _ _ ?_; clear k54
   refine W.seq_k fun _ k57 => ?_
   refine W.block ?_
   refine W.seq_k fun _ k58 => W.regionT [(0, true), (1, true), (2, true), (3, true), (4, true), (5, true), (6, true), (7, false)] (by kernel_rfl) ?_
   refine Plan.move_slice rfl rfl <| Plan.move_int rfl rfl <| Plan.move_int rfl rfl <| Plan.move_int rfl rfl ?_
   obtain ⟨hc59, hR⟩ := hR
   refine Plan.addN (a := ((bLists2.length * 29) + 7)) (b := i_47) rfl rfl rfl (by omega) <| Plan.convNU .u8 (a := (((bLists2.length * 29) + 7) + i_47)) FLaw05.u5 FLaw05.some3 rfl rfl ?_
   obtain ⟨hc60, hR⟩ := hR
   refine Plan.idxVS (j := i_47) h53 (hl_44.bx 0 rfl) FLaw05.sl24 rfl rfl rfl hc60 ?_
   refine Plan.storeO (j := i_47) (Y := (BitVec.ofNat 8 (((bLists2.length * 29) + 7) + i_47))) h53 0 hl_44 rfl rfl rfl rfl hc60 FLaw05.sz5 rfl fun w61 F61 ho61 h61 => ?_
   simp only [zca, zna, zsz, zss] at h61
   have e61 : (l_44.set i_47 (BitVec.ofNat 8 (((bLists2.length * 29) + 7) + i_47))).length = l_44.length := List.length_set
   refine Plan.nil (k58 _ _ ?_); clear k58
   refine W.regionT [(0, true), (1, true), (2, true), (3, true), (4, true), (5, false), (6, false), (7, true)] (by kernel_rfl) ?_
   refine Plan.move_slice rfl rfl <| Plan.move_slice rfl rfl <| Plan.move_int rfl rfl ?_
   obtain ⟨hc62, hR⟩ := hR
   refine Plan.idxVS (j := i_47) h61 ((show Ow _ _ l_4.length _ _ _ from ho61).bx 0 rfl) FLaw05.sl24 rfl rfl rfl hc62 ?_
   refine Plan.loadV (j := i_47) h61 ((show Ow _ _ l_4.length _ _ _ from ho61).bx 0 rfl) rfl rfl hc62 FLaw05.sc5 fun r63 hr63 => ?_
   refine Plan.buildSlice h61 (ps := [(1, fun q => VU .u8 (lit ([(lit (l_44.set i_47 (BitVec.ofNat 8 (((bLists2.length * 29) + 7) + i_47))) i_47)] : List Byte) q))]) FLaw05.slu24 FLaw05.sz5 FLaw05.zv5 (by decide) (by decide) rfl rfl rfl (EffO.wait rfl) fun b64 w64 hb64 h64 => ?_
   simp only [rngs, List.cons_append, List.nil_append] at h64
   have ho64 : Ow (some ⟨b64, 0, none⟩) (some b64) ([(lit (l_44.set i_47 (BitVec.ofNat 8 (((bLists2.length * 29) + 7) + i_47))) i_47)] : List Byte).length 1 (lit ([(lit (l_44.set i_47 (BitVec.ofNat 8 (((bLists2.length * 29) + 7) + i_47))) i_47)] : List Byte)) ([(lit (l_44.set i_47 (BitVec.ofNat 8 (((bLists2.length * 29) + 7) + i_47))) i_47)] : List Byte) := ⟨.inr ⟨b64, rfl, rfl⟩, Nat.le_refl _, rfl, fun q _ => rfl⟩
   obtain ⟨hc66, hR⟩ := hR
   refine Plan.appendO (X := want45) (Y := ([(lit (l_44.set i_47 (BitVec.ofNat 8 (((bLists2.length * 29) + 7) + i_47))) i_47)] : List Byte)) h64 2 hwant45 FLaw05.el24 FLaw05.sl24 rfl rfl rfl rfl (ho64.bx 0 rfl) hc66 (fun _ => EffO.keep PIn.nil) fun a65 pb65 cap65 F65 w65 ho65 h65 => ?_
   simp only [zca, zna, zsz, zss] at h65
   refine Plan.assign_slice rfl rfl <| Plan.nil ?_
   refine blockR_norm ?_
   refine k57 _ _ ?_; clear k57
   refine W.regionT [(0, true), (1, true), (2, true)] (by kernel_rfl) ?_
   refine Plan.move_int rfl rfl ?_
   obtain ⟨hc67, hR⟩ := hR
   refine Plan.addN (a := i_47) (b := 1) rfl rfl rfl (by omega) <| Plan.assign_int rfl rfl <| Plan.nil ?_
   have h68 := St.pickT (C := [_, _, _, _, _, _, _]) h65 [1, 2, 3, 4, 5, 6] (by decide)
   simp only [pick, zfc, zfn, zgz, zgs, zca, zna] at h68
   exact iterR_norm ⟨_, hR, al_44, pl_44, cl_44, F61, a65, pb65, cap65, F65, (zer (zer (zer (zer (zer zen))))), h68, (show Ow _ _ l_4.length _ _ _ from ho61), ho65⟩
  ·
   replace hR := ifF hR hc56
   refine W.condF (congrArg Value.bool (decide_eq_false hc56)) ?_
   refine W.exit (thenR_exit (iterR_exit (blockR_here ?_)))
   exact ⟨l_44, want45, (hx50 _ hR).symm, al_44, pl_44, cl_44, Fl_44, awant45, pwant45, cwant45, Fwant45, (zer (zer (zer (zer zen)))), h53, hl_44, hwant45⟩
 ·
  rintro ev69 wl69 ⟨y_l_48, y_want49, hy69, al_48, pl_48, cl_48, Fl_48, awant49, pwant49, cwant49, Fwant49, he69, h69, hl_48, hwant49⟩
  obtain ⟨ev69, rfl⟩ := he69.open
  cases hy69
  replace hR := hR050
  refine k9 _ _ ?_; clear k9
  refine W.seq_k fun _ k70 => W.regionT [(0, true), (1, true), (2, true), (3, true), (4, true)] (by kernel_rfl) ?_
  refine Plan.move_int rfl rfl ?_
  obtain ⟨hc71, hR⟩ := hR
  refine Plan.mulN (a := ((bLists2.length * 29) + 7)) (b := 3) rfl rfl rfl (by omega) ?_
  obtain ⟨hc72, hR⟩ := hR
  refine Plan.addN (a := (((bLists2.length * 29) + 7) * 3)) (b := 1) rfl rfl rfl (by omega) <| Plan.convNU .u8 (a := ((((bLists2.length * 29) + 7) * 3) + 1)) FLaw05.u5 FLaw05.some3 rfl rfl <| Plan.assign_int rfl rfl <| Plan.nil (k70 _ _ ?_); clear k70
  refine W.seq_k fun _ k73 => ?_
  refine W.regionD FLaw05.mixed [(0, true), (1, true), (2, true), (3, true), (4, true), (5, true), (6, true), (7, true), (8, true), (9, true), (10, false), (11, false), (12, false), (13, false), (14, true), (15, true), (16, false)] (by kernel_rfl) ?_
  have h74 := h69.drew
  refine Plan.move_ptr rfl rfl <| Plan.move_ptr rfl rfl <| Plan.nilCheck rfl rfl <| Plan.fieldAddr0 FLaw05.fld42_0 rfl rfl <| Plan.load0 h74 2 rfl rfl rfl (by omega) FLaw05.sc40 <| Plan.move_slice rfl rfl <| Plan.move_slice rfl rfl <| Plan.move_int rfl rfl ?_
  refine Plan.move_int rfl rfl <| Plan.move_int rfl rfl ?_
  refine Plan.buildSlice h74 (ps := [(3, fun q => VU .u8 (lit ([(BitVec.ofNat 8 ((((bLists2.length * 29) + 7) * 3) + 1)), (BitVec.ofNat 8 ((((bLists2.length * 29) + 7) * 3) + 1)), (BitVec.ofNat 8 ((((bLists2.length * 29) + 7) * 3) + 1))] : List Byte) q))]) FLaw05.slu24 FLaw05.sz5 FLaw05.zv5 (by decide) (by decide) rfl rfl rfl (EffO.keep (PIn.cons 2 rfl PIn.nil)) fun b75 w75 hb75 h75 => ?_
  simp only [rngs, List.cons_append, List.nil_append] at h75
  have ho75 : Ow (some ⟨b75, 0, none⟩) (some b75) ([(BitVec.ofNat 8 ((((bLists2.length * 29) + 7) * 3) + 1)), (BitVec.ofNat 8 ((((bLists2.length * 29) + 7) * 3) + 1)), (BitVec.ofNat 8 ((((bLists2.length * 29) + 7) * 3) + 1))] : List Byte).length 3 (lit ([(BitVec.ofNat 8 ((((bLists2.length * 29) + 7) * 3) + 1)), (BitVec.ofNat 8 ((((bLists2.length * 29) + 7) * 3) + 1)), (BitVec.ofNat 8 ((((bLists2.length * 29) + 7) * 3) + 1))] : List Byte)) ([(BitVec.ofNat 8 ((((bLists2.length * 29) + 7) * 3) + 1)), (BitVec.ofNat 8 ((((bLists2.length * 29) + 7) * 3) + 1)), (BitVec.ofNat 8 ((((bLists2.length * 29) + 7) * 3) + 1))] : List Byte) := ⟨.inr ⟨b75, rfl, rfl⟩, Nat.le_refl _, rfl, fun q _ => rfl⟩
  obtain ⟨hc77, hR⟩ := hR
  refine Plan.appendOK (X := l_48) (Y := ([(BitVec.ofNat 8 ((((bLists2.length * 29) + 7) * 3) + 1)), (BitVec.ofNat 8 ((((bLists2.length * 29) + 7) * 3) + 1)), (BitVec.ofNat 8 ((((bLists2.length * 29) + 7) * 3) + 1))] : List Byte)) h75 1 hl_48 FLaw05.el24 FLaw05.sl24 rfl rfl rfl rfl (ho75.bx 0 rfl) hc77 (fun _ _ => EffO.keep (PIn.cons 4 rfl PIn.nil)) fun a76 pb76 cap76 F76 r76 iz76 w76 ho76 hi76 hv76 h76 => ?_
  simp only [zca, zna, zsz, zss] at h76 hv76
  have h80 := St.pickT (C := [_, _, _, _, _, _, _, _]) h76 [1, 3, 4, 5, 6, 7, 0, 2] (by decide)
  simp only [pick, zfc, zfn, zgz, zgs, zca, zna] at h80
  obtain ⟨L, hL81⟩ : ∃ X, X = [⟨pb76, 0, cap76, fun q => VU .u8 (F76 q), true⟩, r76] ++ L := ⟨_, rfl⟩
  obtain ⟨LP, hQ81⟩ : ∃ X, X = [⟨pb76, 0, cap76, fun q => VU .u8 (F76 q), true⟩, r76] ++ LP := ⟨_, rfl⟩
  replace hLP : ∀ r ∈ LP, r ∈ L := by rw [hQ81, hL81]; exact frMemGrow hLP
  have h81 := St.re (N := [_, _, _, _, _, _]) hL81 h80
  simp only [zca, zna] at h81
  replace hFr : Fr2 _ _ L LP := hFr.step hL81 hQ81
  have ho82 : LO (D24.at LP) [] abLists2 pbLists2 (bLists2).length cbLists2 FbLists2 bLists2 := by rw [hQ81]; exact LO.grow D24_lifts (fun r hr => List.mem_append_right _ hr) hbLists2
  have ho83 : LO (D24.at LP) [] abWant3 pbWant3 (bWant3).length cbWant3 FbWant3 bWant3 := by rw [hQ81]; exact LO.grow D24_lifts (fun r hr => List.mem_append_right _ hr) hbWant3
  obtain ⟨ix84, hv84⟩ : ∃ i, Bx L i al_48 l_4.length cl_48 l_48 := ⟨_, by rw [hL81]; exact (Bx.two (L' := [_, _] ++ _) (j1 := 0) (j2 := 1) hv76 hi76 rfl rfl rfl rfl)⟩
  have hp84 : ∃ i, Bx LP i al_48 l_4.length cl_48 l_48 := ⟨_, by rw [hQ81]; exact (Bx.two (L' := [_, _] ++ _) (j1 := 0) (j2 := 1) hv76 hi76 rfl rfl rfl rfl)⟩
  obtain ⟨ix85, hv85⟩ : ∃ i, Bx L i a76 ((l_48 ++ ([(BitVec.ofNat 8 ((((bLists2.length * 29) + 7) * 3) + 1)), (BitVec.ofNat 8 ((((bLists2.length * 29) + 7) * 3) + 1)), (BitVec.ofNat 8 ((((bLists2.length * 29) + 7) * 3) + 1))] : List Byte)).length) cap76 (l_48 ++ ([(BitVec.ofNat 8 ((((bLists2.length * 29) + 7) * 3) + 1)), (BitVec.ofNat 8 ((((bLists2.length * 29) + 7) * 3) + 1)), (BitVec.ofNat 8 ((((bLists2.length * 29) + 7) * 3) + 1))] : List Byte)) := ⟨_, by rw [hL81]; exact (ho76.bx 0 rfl)⟩
  have hp85 : ∃ i, Bx LP i a76 ((l_48 ++ ([(BitVec.ofNat 8 ((((bLists2.length * 29) + 7) * 3) + 1)), (BitVec.ofNat 8 ((((bLists2.length * 29) + 7) * 3) + 1)), (BitVec.ofNat 8 ((((bLists2.length * 29) + 7) * 3) + 1))] : List Byte)).length) cap76 (l_48 ++ ([(BitVec.ofNat 8 ((((bLists2.length * 29) + 7) * 3) + 1)), (BitVec.ofNat 8 ((((bLists2.length * 29) + 7) * 3) + 1)), (BitVec.ofNat 8 ((((bLists2.length * 29) + 7) * 3) + 1))] : List Byte)) := ⟨_, by rw [hQ81]; exact (ho76.bx 0 rfl)⟩
  refine Plan.buildLO (D := (D24.at LP)) (sz := 1) h81 [((al_48, l_4.length, cl_48), (l_48 : (List Byte))), ((a76, (l_48 ++ ([(BitVec.ofNat 8 ((((bLists2.length * 29) + 7) * 3) + 1)), (BitVec.ofNat 8 ((((bLists2.length * 29) + 7) * 3) + 1)), (BitVec.ofNat 8 ((((bLists2.length * 29) + 7) * 3) + 1))] : List Byte)).length, cap76), ((l_48 ++ ([(BitVec.ofNat 8 ((((bLists2.length * 29) + 7) * 3) + 1)), (BitVec.ofNat 8 ((((bLists2.length * 29) + 7) * 3) + 1)), (BitVec.ofNat 8 ((((bLists2.length * 29) + 7) * 3) + 1))] : List Byte)) : (List Byte)))] FLaw05.slu40 FLaw05.sz24 FLaw05.zv24 (by decide) (by decide) rfl rfl rfl rfl (by exact (List.forall_mem_cons.2 ⟨hp84, (List.forall_mem_cons.2 ⟨hp85, (fun _ h => nomatch h)⟩)⟩)) (EffO.keep (PIn.cons 2 rfl PIn.nil)) fun b79 w79 F79 hb79 ho79 h79 => ?_
  replace ho79 : LO (D24.at LP) [] (some ⟨b79, 0, none⟩) (some b79) ([l_48, (l_48 ++ ([(BitVec.ofNat 8 ((((bLists2.length * 29) + 7) * 3) + 1)), (BitVec.ofNat 8 ((((bLists2.length * 29) + 7) * 3) + 1)), (BitVec.ofNat 8 ((((bLists2.length * 29) + 7) * 3) + 1))] : List Byte))] : List (List Byte)).length 2 F79 ([l_48, (l_48 ++ ([(BitVec.ofNat 8 ((((bLists2.length * 29) + 7) * 3) + 1)), (BitVec.ofNat 8 ((((bLists2.length * 29) + 7) * 3) + 1)), (BitVec.ofNat 8 ((((bLists2.length * 29) + 7) * 3) + 1))] : List Byte))] : List (List Byte)) := ho79.re (fun _ _ h => h)
  obtain ⟨hc87, hR⟩ := hR
  refine Plan.appendLO (D := (D24.at LP)) (X := bLists2) (Y := ([l_48, (l_48 ++ ([(BitVec.ofNat 8 ((((bLists2.length * 29) + 7) * 3) + 1)), (BitVec.ofNat 8 ((((bLists2.length * 29) + 7) * 3) + 1)), (BitVec.ofNat 8 ((((bLists2.length * 29) + 7) * 3) + 1))] : List Byte))] : List (List Byte))) (sz := 1) h79 (none, 0, 0) ([] : List Byte) 4 ho82 rfl FLaw05.el40 rfl FLaw05.slu40 rfl rfl rfl rfl (LO.lvf EL.at_flat ho79 0 rfl) (fun _ _ h => h) hc87.1 hc87.2 (fun _ => EffO.wait rfl) fun a86 pb86 cap86 F86 w86 ho86 h86 => ?_
  simp only [zca, zna, zsz, zss] at h86
  replace ho86 : LO (D24.at LP) [] a86 pb86 (bLists2 ++ ([l_48, (l_48 ++ ([(BitVec.ofNat 8 ((((bLists2.length * 29) + 7) * 3) + 1)), (BitVec.ofNat 8 ((((bLists2.length * 29) + 7) * 3) + 1)), (BitVec.ofNat 8 ((((bLists2.length * 29) + 7) * 3) + 1))] : List Byte))] : List (List Byte))).length cap86 F86 (bLists2 ++ ([l_48, (l_48 ++ ([(BitVec.ofNat 8 ((((bLists2.length * 29) + 7) * 3) + 1)), (BitVec.ofNat 8 ((((bLists2.length * 29) + 7) * 3) + 1)), (BitVec.ofNat 8 ((((bLists2.length * 29) + 7) * 3) + 1))] : List Byte))] : List (List Byte))) := ho86.re (fun _ _ h => h)
  refine Plan.nilCheck rfl rfl <| Plan.fieldAddr0 FLaw05.fld42_0 rfl rfl ?_
  refine Plan.storeC h86 3 rfl rfl rfl rfl rfl FLaw05.sz40 rfl fun w88 h88 => ?_
  simp only [zca, zna, zsz, zss] at h88
  refine Plan.nil (k73 _ _ ?_); clear k73
  refine W.regionD FLaw05.mixed [(0, true), (1, true), (2, true), (3, true), (4, true), (5, true), (6, true), (7, true), (8, true), (9, true), (10, false), (11, false), (12, false), (13, false), (14, true), (15, true), (16, false)] (by kernel_rfl) ?_
  have h89 := h88.drew
  refine Plan.move_ptr rfl rfl <| Plan.move_ptr rfl rfl <| Plan.nilCheck rfl rfl <| Plan.fieldAddr 1 FLaw05.fld42_1 rfl rfl <| Plan.load0 h89 5 rfl rfl rfl (by omega) FLaw05.sc40 <| Plan.move_slice rfl rfl <| Plan.move_slice rfl rfl <| Plan.move_int rfl rfl ?_
  refine Plan.move_int rfl rfl <| Plan.move_int rfl rfl ?_
  refine Plan.buildSlice h89 (ps := [(3, fun q => VU .u8 (lit ([(BitVec.ofNat 8 ((((bLists2.length * 29) + 7) * 3) + 1)), (BitVec.ofNat 8 ((((bLists2.length * 29) + 7) * 3) + 1)), (BitVec.ofNat 8 ((((bLists2.length * 29) + 7) * 3) + 1))] : List Byte) q))]) FLaw05.slu24 FLaw05.sz5 FLaw05.zv5 (by decide) (by decide) rfl rfl rfl (EffO.keep (PIn.cons 5 rfl PIn.nil)) fun b90 w90 hb90 h90 => ?_
  simp only [rngs, List.cons_append, List.nil_append] at h90
  have ho90 : Ow (some ⟨b90, 0, none⟩) (some b90) ([(BitVec.ofNat 8 ((((bLists2.length * 29) + 7) * 3) + 1)), (BitVec.ofNat 8 ((((bLists2.length * 29) + 7) * 3) + 1)), (BitVec.ofNat 8 ((((bLists2.length * 29) + 7) * 3) + 1))] : List Byte).length 3 (lit ([(BitVec.ofNat 8 ((((bLists2.length * 29) + 7) * 3) + 1)), (BitVec.ofNat 8 ((((bLists2.length * 29) + 7) * 3) + 1)), (BitVec.ofNat 8 ((((bLists2.length * 29) + 7) * 3) + 1))] : List Byte)) ([(BitVec.ofNat 8 ((((bLists2.length * 29) + 7) * 3) + 1)), (BitVec.ofNat 8 ((((bLists2.length * 29) + 7) * 3) + 1)), (BitVec.ofNat 8 ((((bLists2.length * 29) + 7) * 3) + 1))] : List Byte) := ⟨.inr ⟨b90, rfl, rfl⟩, Nat.le_refl _, rfl, fun q _ => rfl⟩
  obtain ⟨hc92, hR⟩ := hR
  refine Plan.appendOK (X := want49) (Y := ([(BitVec.ofNat 8 ((((bLists2.length * 29) + 7) * 3) + 1)), (BitVec.ofNat 8 ((((bLists2.length * 29) + 7) * 3) + 1)), (BitVec.ofNat 8 ((((bLists2.length * 29) + 7) * 3) + 1))] : List Byte)) h90 3 hwant49 FLaw05.el24 FLaw05.sl24 rfl rfl rfl rfl (ho90.bx 0 rfl) hc92 (fun _ _ => EffO.keep (PIn.cons 7 rfl PIn.nil)) fun a91 pb91 cap91 F91 r91 iz91 w91 ho91 hi91 hv91 h91 => ?_
  simp only [zca, zna, zsz, zss] at h91 hv91
  have h95 := St.pickT (C := [_, _, _, _, _, _, _, _, _]) h91 [1, 2, 3, 5, 6, 7, 8, 0, 4] (by decide)
  simp only [pick, zfc, zfn, zgz, zgs, zca, zna] at h95
  obtain ⟨L, hL96⟩ : ∃ X, X = [⟨pb91, 0, cap91, fun q => VU .u8 (F91 q), true⟩, r91] ++ L := ⟨_, rfl⟩
  obtain ⟨LP, hQ96⟩ : ∃ X, X = [⟨pb91, 0, cap91, fun q => VU .u8 (F91 q), true⟩, r91] ++ LP := ⟨_, rfl⟩
  replace hLP : ∀ r ∈ LP, r ∈ L := by rw [hQ96, hL96]; exact frMemGrow hLP
  have h96 := St.re (N := [_, _, _, _, _, _, _]) hL96 h95
  simp only [zca, zna] at h96
  replace hFr : Fr2 _ _ L LP := hFr.step hL96 hQ96
  obtain ⟨ix97, hv97⟩ : ∃ i, Bx L i al_48 l_4.length cl_48 l_48 := ⟨_, by rw [hL96]; exact hv84.app _⟩
  have hp97 : ∃ i, Bx LP i al_48 l_4.length cl_48 l_48 := by rw [hQ96]; exact ⟨_, hp84.choose_spec.app _⟩
  obtain ⟨ix98, hv98⟩ : ∃ i, Bx L i a76 ((l_48 ++ ([(BitVec.ofNat 8 ((((bLists2.length * 29) + 7) * 3) + 1)), (BitVec.ofNat 8 ((((bLists2.length * 29) + 7) * 3) + 1)), (BitVec.ofNat 8 ((((bLists2.length * 29) + 7) * 3) + 1))] : List Byte)).length) cap76 (l_48 ++ ([(BitVec.ofNat 8 ((((bLists2.length * 29) + 7) * 3) + 1)), (BitVec.ofNat 8 ((((bLists2.length * 29) + 7) * 3) + 1)), (BitVec.ofNat 8 ((((bLists2.length * 29) + 7) * 3) + 1))] : List Byte)) := ⟨_, by rw [hL96]; exact hv85.app _⟩
  have hp98 : ∃ i, Bx LP i a76 ((l_48 ++ ([(BitVec.ofNat 8 ((((bLists2.length * 29) + 7) * 3) + 1)), (BitVec.ofNat 8 ((((bLists2.length * 29) + 7) * 3) + 1)), (BitVec.ofNat 8 ((((bLists2.length * 29) + 7) * 3) + 1))] : List Byte)).length) cap76 (l_48 ++ ([(BitVec.ofNat 8 ((((bLists2.length * 29) + 7) * 3) + 1)), (BitVec.ofNat 8 ((((bLists2.length * 29) + 7) * 3) + 1)), (BitVec.ofNat 8 ((((bLists2.length * 29) + 7) * 3) + 1))] : List Byte)) := by rw [hQ96]; exact ⟨_, hp85.choose_spec.app _⟩
  have ho99 : LO (D24.at LP) [] (some ⟨b79, 0, none⟩) (some b79) (([l_48, (l_48 ++ ([(BitVec.ofNat 8 ((((bLists2.length * 29) + 7) * 3) + 1)), (BitVec.ofNat 8 ((((bLists2.length * 29) + 7) * 3) + 1)), (BitVec.ofNat 8 ((((bLists2.length * 29) + 7) * 3) + 1))] : List Byte))] : List (List Byte))).length 2 F79 ([l_48, (l_48 ++ ([(BitVec.ofNat 8 ((((bLists2.length * 29) + 7) * 3) + 1)), (BitVec.ofNat 8 ((((bLists2.length * 29) + 7) * 3) + 1)), (BitVec.ofNat 8 ((((bLists2.length * 29) + 7) * 3) + 1))] : List Byte))] : List (List Byte)) := by rw [hQ96]; exact LO.grow D24_lifts (fun r hr => List.mem_append_right _ hr) ho79
  have ho100 : LO (D24.at LP) [] a86 pb86 ((bLists2 ++ ([l_48, (l_48 ++ ([(BitVec.ofNat 8 ((((bLists2.length * 29) + 7) * 3) + 1)), (BitVec.ofNat 8 ((((bLists2.length * 29) + 7) * 3) + 1)), (BitVec.ofNat 8 ((((bLists2.length * 29) + 7) * 3) + 1))] : List Byte))] : List (List Byte)))).length cap86 F86 (bLists2 ++ ([l_48, (l_48 ++ ([(BitVec.ofNat 8 ((((bLists2.length * 29) + 7) * 3) + 1)), (BitVec.ofNat 8 ((((bLists2.length * 29) + 7) * 3) + 1)), (BitVec.ofNat 8 ((((bLists2.length * 29) + 7) * 3) + 1))] : List Byte))] : List (List Byte))) := by rw [hQ96]; exact LO.grow D24_lifts (fun r hr => List.mem_append_right _ hr) ho86
  have ho101 : LO (D24.at LP) [] abWant3 pbWant3 (bWant3).length cbWant3 FbWant3 bWant3 := by rw [hQ96]; exact LO.grow D24_lifts (fun r hr => List.mem_append_right _ hr) ho83
  obtain ⟨ix102, hv102⟩ : ∃ i, Bx L i awant49 want49.length cwant49 want49 := ⟨_, by rw [hL96]; exact (Bx.two (L' := [_, _] ++ _) (j1 := 0) (j2 := 1) hv91 hi91 rfl rfl rfl rfl)⟩
  have hp102 : ∃ i, Bx LP i awant49 want49.length cwant49 want49 := ⟨_, by rw [hQ96]; exact (Bx.two (L' := [_, _] ++ _) (j1 := 0) (j2 := 1) hv91 hi91 rfl rfl rfl rfl)⟩
  obtain ⟨ix103, hv103⟩ : ∃ i, Bx L i a91 ((want49 ++ ([(BitVec.ofNat 8 ((((bLists2.length * 29) + 7) * 3) + 1)), (BitVec.ofNat 8 ((((bLists2.length * 29) + 7) * 3) + 1)), (BitVec.ofNat 8 ((((bLists2.length * 29) + 7) * 3) + 1))] : List Byte)).length) cap91 (want49 ++ ([(BitVec.ofNat 8 ((((bLists2.length * 29) + 7) * 3) + 1)), (BitVec.ofNat 8 ((((bLists2.length * 29) + 7) * 3) + 1)), (BitVec.ofNat 8 ((((bLists2.length * 29) + 7) * 3) + 1))] : List Byte)) := ⟨_, by rw [hL96]; exact (ho91.bx 0 rfl)⟩
  have hp103 : ∃ i, Bx LP i a91 ((want49 ++ ([(BitVec.ofNat 8 ((((bLists2.length * 29) + 7) * 3) + 1)), (BitVec.ofNat 8 ((((bLists2.length * 29) + 7) * 3) + 1)), (BitVec.ofNat 8 ((((bLists2.length * 29) + 7) * 3) + 1))] : List Byte)).length) cap91 (want49 ++ ([(BitVec.ofNat 8 ((((bLists2.length * 29) + 7) * 3) + 1)), (BitVec.ofNat 8 ((((bLists2.length * 29) + 7) * 3) + 1)), (BitVec.ofNat 8 ((((bLists2.length * 29) + 7) * 3) + 1))] : List Byte)) := ⟨_, by rw [hQ96]; exact (ho91.bx 0 rfl)⟩
  refine Plan.buildLO (D := (D24.at LP)) (sz := 1) h96 [((awant49, want49.length, cwant49), (want49 : (List Byte))), ((a91, (want49 ++ ([(BitVec.ofNat 8 ((((bLists2.length * 29) + 7) * 3) + 1)), (BitVec.ofNat 8 ((((bLists2.length * 29) + 7) * 3) + 1)), (BitVec.ofNat 8 ((((bLists2.length * 29) + 7) * 3) + 1))] : List Byte)).length, cap91), ((want49 ++ ([(BitVec.ofNat 8 ((((bLists2.length * 29) + 7) * 3) + 1)), (BitVec.ofNat 8 ((((bLists2.length * 29) + 7) * 3) + 1)), (BitVec.ofNat 8 ((((bLists2.length * 29) + 7) * 3) + 1))] : List Byte)) : (List Byte)))] FLaw05.slu40 FLaw05.sz24 FLaw05.zv24 (by decide) (by decide) rfl rfl rfl rfl (by exact (List.forall_mem_cons.2 ⟨hp102, (List.forall_mem_cons.2 ⟨hp103, (fun _ h => nomatch h)⟩)⟩)) (EffO.keep (PIn.cons 5 rfl PIn.nil)) fun b94 w94 F94 hb94 ho94 h94 => ?_
  replace ho94 : LO (D24.at LP) [] (some ⟨b94, 0, none⟩) (some b94) ([want49, (want49 ++ ([(BitVec.ofNat 8 ((((bLists2.length * 29) + 7) * 3) + 1)), (BitVec.ofNat 8 ((((bLists2.length * 29) + 7) * 3) + 1)), (BitVec.ofNat 8 ((((bLists2.length * 29) + 7) * 3) + 1))] : List Byte))] : List (List Byte)).length 2 F94 ([want49, (want49 ++ ([(BitVec.ofNat 8 ((((bLists2.length * 29) + 7) * 3) + 1)), (BitVec.ofNat 8 ((((bLists2.length * 29) + 7) * 3) + 1)), (BitVec.ofNat 8 ((((bLists2.length * 29) + 7) * 3) + 1))] : List Byte))] : List (List Byte)) := ho94.re (fun _ _ h => h)
  obtain ⟨hc105, hR⟩ := hR
  refine Plan.appendLO (D := (D24.at LP)) (X := bWant3) (Y := ([want49, (want49 ++ ([(BitVec.ofNat 8 ((((bLists2.length * 29) + 7) * 3) + 1)), (BitVec.ofNat 8 ((((bLists2.length * 29) + 7) * 3) + 1)), (BitVec.ofNat 8 ((((bLists2.length * 29) + 7) * 3) + 1))] : List Byte))] : List (List Byte))) (sz := 1) h94 (none, 0, 0) ([] : List Byte) 7 ho101 rfl FLaw05.el40 rfl FLaw05.slu40 rfl rfl rfl rfl (LO.lvf EL.at_flat ho94 0 rfl) (fun _ _ h => h) hc105.1 hc105.2 (fun _ => EffO.wait rfl) fun a104 pb104 cap104 F104 w104 ho104 h104 => ?_
  simp only [zca, zna, zsz, zss] at h104
  replace ho104 : LO (D24.at LP) [] a104 pb104 (bWant3 ++ ([want49, (want49 ++ ([(BitVec.ofNat 8 ((((bLists2.length * 29) + 7) * 3) + 1)), (BitVec.ofNat 8 ((((bLists2.length * 29) + 7) * 3) + 1)), (BitVec.ofNat 8 ((((bLists2.length * 29) + 7) * 3) + 1))] : List Byte))] : List (List Byte))).length cap104 F104 (bWant3 ++ ([want49, (want49 ++ ([(BitVec.ofNat 8 ((((bLists2.length * 29) + 7) * 3) + 1)), (BitVec.ofNat 8 ((((bLists2.length * 29) + 7) * 3) + 1)), (BitVec.ofNat 8 ((((bLists2.length * 29) + 7) * 3) + 1))] : List Byte))] : List (List Byte))) := ho104.re (fun _ _ h => h)
  refine Plan.nilCheck rfl rfl <| Plan.fieldAddr 1 FLaw05.fld42_1 rfl rfl ?_
  refine Plan.storeC h104 6 rfl rfl rfl rfl rfl FLaw05.sz40 rfl fun w106 h106 => ?_
  simp only [zca, zna, zsz, zss] at h106
  refine Plan.nil ?_
  refine finR_norm ?_
  have h107 := St.pickT (C := [_, _, _, _, _, _, _, _]) h106 [4, 5, 6, 7] (by decide)
  simp only [pick, zfc, zfn, zgz, zgs, zca, zna] at h107
  subst r
  refine RetOk.mk .nil ?_
  obtain ⟨CF, hx1, hx2⟩ := hFr
  subst hx1
  subst hx2
  exact ⟨_, a86, pb86, (bLists2 ++ ([l_48, (l_48 ++ ([(BitVec.ofNat 8 ((((bLists2.length * 29) + 7) * 3) + 1)), (BitVec.ofNat 8 ((((bLists2.length * 29) + 7) * 3) + 1)), (BitVec.ofNat 8 ((((bLists2.length * 29) + 7) * 3) + 1))] : List Byte))] : List (List Byte))).length, cap86, F86, a104, pb104, (bWant3 ++ ([want49, (want49 ++ ([(BitVec.ofNat 8 ((((bLists2.length * 29) + 7) * 3) + 1)), (BitVec.ofNat 8 ((((bLists2.length * 29) + 7) * 3) + 1)), (BitVec.ofNat 8 ((((bLists2.length * 29) + 7) * 3) + 1))] : List Byte))] : List (List Byte))).length, cap104, F104, rfl, h107, ho100, ho104⟩
theorem lethelaw05_Kept_ok {B : Nat} {w0 w : World} {L : List Rg} {room1 : List Byte} {aroom1 : Option Addr} {nroom1 croom1 iroom1 : Nat} (hroom1 : Bx L iroom1 aroom1 nroom1 croom1 room1) {b2 : List Byte} {ab2 : Option Addr} {nb2 cb2 ib2 : Nat} (hb2 : Bx L ib2 ab2 nb2 cb2 b2) {r : Bool} (hR : lethelaw05_Kept room1 b2 r) (HST : St B w0 (L) w) :
  Calls Tryd.prog 32 #[.slice aroom1 nroom1 croom1, .slice ab2 nb2 cb2] w fun e w' => e = .returned (.bool r) ∧ St B w0 (L) w' := by
 refine W.enter 9 Tryd.func32 rfl rfl rfl ?_
 unfold lethelaw05_Kept at hR
 have eroom1 := hroom1.hl; subst eroom1
 have eb2 := hb2.hl; subst eb2
 refine W.seq_k fun _ k3 => W.regionT [(0, true)] (by kernel_rfl) ?_
 refine Plan.assign_bool rfl rfl <| Plan.nil (k3 _ _ ?_); clear k3
 refine W.seq_k fun _ k4 => W.regionT [(0, true), (1, true), (2, false), (3, false), (4, true)] (by kernel_rfl) ?_
 refine Plan.move_slice rfl rfl <| Plan.move_slice rfl rfl ?_
 obtain ⟨x_6, hr5, hR⟩ := hR
 refine Plan.call (vs := [.slice ab2 b2.length cb2]) rfl FLaw05.call27 rfl (lethelaw05_Room_ok hb2 hr5 HST) ?_
 rintro _ w12 ⟨ay0_7, py0_8, ny0_9, cy0_10, Fy0_11, rfl, h12, hf12_0⟩
 obtain rfl := hf12_0.hl
 refine ⟨_, rfl, .inl ⟨PIn.keep PIn.nil h12, ?_⟩⟩
 obtain ⟨x_14, hr13, hR⟩ := hR
 refine Plan.call (vs := [.slice aroom1 room1.length croom1, .slice ay0_7 x_6.length cy0_10]) rfl FLaw05.call14 rfl (lethelaw05_Eq_ok (hroom1.app [_]) (by exact (hf12_0.bx 0 rfl)) hr13 h12) ?_
 rintro _ w15 ⟨rfl, h15⟩
 refine ⟨_, rfl, .inl ⟨PIn.keep PIn.nil h15, ?_⟩⟩
 refine Plan.assign_bool rfl rfl <| Plan.nil (k4 _ _ ?_); clear k4
 refine W.ret (finR_ret ?_)
 have h16 := St.pickT (C := [_]) h15 [] (by decide)
 simp only [pick, zfc, zfn, zgz, zgs, zca, zna] at h16
 subst r
 refine RetOk.mk (.tmp_bool rfl .nil) ?_
 exact ⟨rfl, h16⟩
theorem lethelaw05_Book_plays_ok {B : Nat} {w0 w : World} {L : List Rg} {iG0 : Nat} (hG0 : L[iG0]? = some ⟨some 0, 0, 8, fun q => VU .u32 (H256 q), false⟩) {iG1 : Nat} (hG1 : L[iG1]? = some ⟨some 1, 0, 64, fun q => VU .u32 (K256 q), false⟩) {iG2 : Nat} (hG2 : L[iG2]? = some ⟨some 2, 0, 8, fun q => VU .u64 (H64 q), false⟩) {iG3 : Nat} (hG3 : L[iG3]? = some ⟨some 3, 0, 64, fun q => VU .u64 (K64 q), false⟩) {LP : List Rg} (hLP : ∀ r ∈ LP, r ∈ L) {bb1 : Nat} {bLists2 : List (List Byte)} {abLists2 : Option Addr} {pbLists2 : Option Nat} {nbLists2 cbLists2 : Nat} {FbLists2 : Nat → Value} (hbLists2 : LO (D24.at LP) [] abLists2 pbLists2 nbLists2 cbLists2 FbLists2 bLists2) {bWant3 : List (List Byte)} {abWant3 : Option Addr} {pbWant3 : Option Nat} {nbWant3 cbWant3 : Nat} {FbWant3 : Nat → Value} (hbWant3 : LO (D24.at LP) [] abWant3 pbWant3 nbWant3 cbWant3 FbWant3 bWant3) {oKind4 : Int} {oKey5 : Nat → BitVec 8} {oData6 : List Byte} {aoData6 : Option Addr} {noData6 coData6 : Nat} (qoData6 : ∃ i, Bx LP i aoData6 noData6 coData6 oData6) {oB7 : List Byte} {aoB7 : Option Addr} {noB7 coB7 : Nat} (qoB7 : ∃ i, Bx LP i aoB7 noB7 coB7 oB7) {oN8 : Int} {r : (Bool × (List (List Byte)) × (List (List Byte)))} (hR : lethelaw05_Book_plays bLists2 bWant3 oKind4 oKey5 oData6 oB7 oN8 r) (HST : St B w0 (⟨some bb1, 0, 1, fun _ => .slice abLists2 nbLists2 cbLists2, true⟩ :: ⟨pbLists2, 0, cbLists2 * 1, FbLists2, true⟩ :: ⟨some bb1, 1, 1, fun _ => .slice abWant3 nbWant3 cbWant3, true⟩ :: ⟨pbWant3, 0, cbWant3 * 1, FbWant3, true⟩ :: L) w) :
  Calls Tryd.prog 16 #[.pointer (some ⟨bb1, 0, none⟩), AG [(1, fun _ => .int .i64 oKind4), (32, fun q => VU .u8 (oKey5 q)), (1, fun _ => .slice aoData6 noData6 coData6), (1, fun _ => .slice aoB7 noB7 coB7), (1, fun _ => .int .i64 oN8)]] w fun e w' => ∃ C : List Rg, ∃ aqbLists2 : Option Addr, ∃ pqbLists2 : Option Nat, ∃ nqbLists2 : Nat, ∃ cqbLists2 : Nat, ∃ FqbLists2 : Nat → Value, ∃ aqbWant3 : Option Addr, ∃ pqbWant3 : Option Nat, ∃ nqbWant3 : Nat, ∃ cqbWant3 : Nat, ∃ FqbWant3 : Nat → Value, e = .returned (.bool r.1) ∧ St B w0 (⟨some bb1, 0, 1, fun _ => .slice aqbLists2 nqbLists2 cqbLists2, true⟩ :: ⟨pqbLists2, 0, cqbLists2 * 1, FqbLists2, true⟩ :: ⟨some bb1, 1, 1, fun _ => .slice aqbWant3 nqbWant3 cqbWant3, true⟩ :: ⟨pqbWant3, 0, cqbWant3 * 1, FqbWant3, true⟩ :: (C ++ L)) w' ∧ LO (D24.at (C ++ LP)) [] aqbLists2 pqbLists2 nqbLists2 cqbLists2 FqbLists2 r.2.1 ∧ LO (D24.at (C ++ LP)) [] aqbWant3 pqbWant3 nqbWant3 cqbWant3 FqbWant3 r.2.2 := by
 refine W.enter 168 Tryd.func16 rfl rfl rfl ?_
 unfold lethelaw05_Book_plays at hR
 have hFr : Fr2 L LP L LP := Fr2.refl _ _
 have ebLists2 := hbLists2.hl; subst ebLists2
 have ebWant3 := hbWant3.hl; subst ebWant3
 have eoData6 := qoData6.choose_spec.hl; subst eoData6
 obtain ⟨ioData6, hoData6⟩ := Bx.lift qoData6.choose_spec hLP
 have eoB7 := qoB7.choose_spec.hl; subst eoB7
 obtain ⟨ioB7, hoB7⟩ := Bx.lift qoB7.choose_spec hLP
 refine W.seq_k fun _ k9 => W.regionT [(0, false), (1, true)] (by kernel_rfl) ?_
 refine Plan.boxA HST rfl rfl PIn.nil fun b10 w10 hb10 h10 => ?_
 simp only [rngs, Nat.zero_add, Nat.reduceAdd, zca, zna] at h10
 refine Plan.assign_bool rfl rfl <| Plan.nil (k9 _ _ ?_); clear k9
 refine W.seq_k fun _ k11 => ?_
 refine W.regionD FLaw05.mixed [(0, true), (1, true), (3, true), (4, true), (2, false), (5, false), (6, true), (7, true)] (by kernel_rfl) ?_
 have h12 := h10.drew
 refine Plan.fieldAddr 33 FLaw05.fld45_2 rfl rfl <| Plan.load0 h12 2 rfl rfl rfl (by omega) FLaw05.sc24 <| Plan.fieldAddr 34 FLaw05.fld45_3 rfl rfl <| Plan.load0 h12 3 rfl rfl rfl (by omega) FLaw05.sc24 ?_
 obtain ⟨x_14, hr13, hR⟩ := hR
 refine Plan.call (vs := [.slice aoData6 oData6.length coData6]) rfl FLaw05.call27 rfl (lethelaw05_Room_ok (hoData6.app [_, _, _, _, _, _, _, _, _]) hr13 h12) ?_
 rintro _ w20 ⟨ay0_15, py0_16, ny0_17, cy0_18, Fy0_19, rfl, h20, hf20_0⟩
 obtain rfl := hf20_0.hl
 refine ⟨_, rfl, .inl ⟨PIn.keep (PIn.cons 4 rfl (PIn.cons 3 rfl PIn.nil)) h20, ?_⟩⟩
 obtain ⟨x_22, hr21, hR⟩ := hR
 refine Plan.call (vs := [.slice aoB7 oB7.length coB7]) rfl FLaw05.call27 rfl (lethelaw05_Room_ok (hoB7.app [_, _, _, _, _, _, _, _, _, _]) hr21 h20) ?_
 rintro _ w28 ⟨ay0_23, py0_24, ny0_25, cy0_26, Fy0_27, rfl, h28, hf28_0⟩
 obtain rfl := hf28_0.hl
 refine ⟨_, rfl, .inl ⟨PIn.keep (PIn.cons 5 rfl (PIn.cons 4 rfl PIn.nil)) h28, ?_⟩⟩
 refine Plan.assign_slice rfl rfl <| Plan.assign_slice rfl rfl <| Plan.nil (k11 _ _ ?_); clear k11
 refine W.seq_k fun _ k29 => ?_
 refine W.regionD FLaw05.mixed [(0, true), (1, true), (2, true), (3, true), (4, true), (5, true), (6, true), (7, true), (8, true), (9, true), (10, true), (11, true)] (by kernel_rfl) ?_
 have h30 := h28.drew
 refine Plan.move_slice rfl rfl <| Plan.fieldAddr 33 FLaw05.fld45_2 rfl rfl <| Plan.load0 h30 4 rfl rfl rfl (by omega) FLaw05.sc24 <| Plan.len FLaw05.isl24 rfl rfl ?_
 obtain ⟨hc31, hR⟩ := hR
 have hm32 := hf20_0.hc
 refine Plan.slSl (lo := 0) (hi := oData6.length) FLaw05.sl24 rfl rfl rfl ⟨_, rfl⟩ (by omega) <| Plan.move_slice rfl rfl <| Plan.fieldAddr 34 FLaw05.fld45_3 rfl rfl <| Plan.load0 h30 5 rfl rfl rfl (by omega) FLaw05.sc24 <| Plan.len FLaw05.isl24 rfl rfl ?_
 obtain ⟨hc33, hR⟩ := hR
 have hm34 := hf28_0.hc
 refine Plan.slSl (lo := 0) (hi := oB7.length) FLaw05.sl24 rfl rfl rfl ⟨_, rfl⟩ (by omega) <| Plan.assign_slice rfl rfl <| Plan.assign_slice rfl rfl <| Plan.nil (k29 _ _ ?_); clear k29
 refine W.seq_k fun _ k35 => W.regionT [(0, true)] (by kernel_rfl) ?_
 refine Plan.assign_bool rfl rfl <| Plan.nil (k35 _ _ ?_); clear k35
 refine W.seq_k fun _ k36 => ?_
 have hFj294 : Fr2 L LP L LP := Fr2.refl _ _
 obtain ⟨ok294, x_289, y290, ok291, m292, m293, hX294, hR0294⟩ := hR
 refine W.cutN (fun e w => ∃ y_x_289 : List Byte, ∃ y_y290 : List Byte, ∃ y_ok291 : Bool, ∃ y_m292 : List (List Byte), ∃ y_m293 : List (List Byte), (ok294 = true ∧ x_289 = y_x_289 ∧ y290 = y_y290 ∧ ok291 = y_ok291 ∧ m292 = y_m292 ∧ m293 = y_m293) ∧ ∃ CG LG : List Rg, LG = CG ++ L ∧ ∃ QG : List Rg, QG = CG ++ LP ∧ ∃ L : List Rg, L = LG ∧ ∃ LP : List Rg, LP = QG ∧ (∀ r ∈ LP, r ∈ L) ∧ ∃ ax_289 : Option Addr, ∃ px_289 : Option Nat, ∃ cx_289 : Nat, ∃ Fx_289 : Nat → Byte, ∃ ay290 : Option Addr, ∃ py290 : Option Nat, ∃ cy290 : Nat, ∃ Fy290 : Nat → Byte, ∃ n_m292 : Nat, ∃ am292 : Option Addr, ∃ pm292 : Option Nat, ∃ cm292 : Nat, ∃ Fm292 : Nat → Value, ∃ n_m293 : Nat, ∃ am293 : Option Addr, ∃ pm293 : Option Nat, ∃ cm293 : Nat, ∃ Fm293 : Nat → Value, EnvHas e [(3, .pointer (some ⟨b10, 0, none⟩)), (5, .slice ax_289 x_14.length cx_289), (6, .slice ay290 x_22.length cy290), (9, .bool y_ok291)] ∧ St B w0 (⟨px_289, 0, cx_289, fun q => VU .u8 (Fx_289 q), true⟩ :: ⟨py290, 0, cy290, fun q => VU .u8 (Fy290 q), true⟩ :: ⟨pm292, 0, cm292 * 1, Fm292, true⟩ :: ⟨pm293, 0, cm293 * 1, Fm293, true⟩ :: ⟨some bb1, 0, 1, fun _ => .slice am292 n_m292 cm292, true⟩ :: ⟨some bb1, 1, 1, fun _ => .slice am293 n_m293 cm293, true⟩ :: ⟨some b10, 0, 1, fun _ => .int .i64 oKind4, true⟩ :: ⟨some b10, 1, 32, fun q => VU .u8 (oKey5 q), true⟩ :: ⟨some b10, 33, 1, fun _ => .slice aoData6 oData6.length coData6, true⟩ :: ⟨some b10, 34, 1, fun _ => .slice aoB7 oB7.length coB7, true⟩ :: ⟨some b10, 35, 1, fun _ => .int .i64 oN8, true⟩ :: L) w ∧ Ow ax_289 px_289 x_14.length cx_289 Fx_289 y_x_289 ∧ Ow ay290 py290 x_22.length cy290 Fy290 y_y290 ∧ LO (D24.at LP) [] am292 pm292 n_m292 cm292 Fm292 y_m292 ∧ LO (D24.at LP) [] am293 pm293 n_m293 cm293 Fm293 y_m293) ?_ ?_
 ·
  replace hR := hX294
  refine W.seq_k fun _ k295 => W.regionT [(0, true), (1, true)] (by kernel_rfl) ?_
  refine Plan.fieldAddr0 FLaw05.fld45_0 rfl rfl <| Plan.load0 h30 2 rfl rfl rfl (by omega) FLaw05.sc3 <| Plan.nil (k295 _ _ ?_); clear k295
  refine W.block ?_
  refine W.seq_k fun _ k296 => W.regionT [(0, true), (1, true)] (by kernel_rfl) ?_
  refine Plan.cmpP (a := (oKind4 : Int)) (b := (1 : Int)) (p := oKind4 = 1) rfl rfl rfl rfl icmp_eq <| Plan.assign_bool rfl rfl <| Plan.nil (k296 _ _ ?_); clear k296
  by_cases hc297 : oKind4 = 1
  ·
   replace hR := ifT hR hc297
   refine W.condT (congrArg Value.bool (decide_eq_true hc297)) ?_
   refine W.seq_k fun _ k298 => W.regionT [(0, true), (1, true), (2, true), (3, true), (4, false), (5, true), (6, true), (7, true), (8, true), (9, true)] (by kernel_rfl) ?_
   refine Plan.fieldAddr 1 FLaw05.fld45_1 rfl rfl <| Plan.loadA1 h30 3 rfl rfl rfl FLaw05.agg23 <| Plan.move_slice rfl rfl <| Plan.move_slice rfl rfl ?_
   obtain ⟨x_300, x_301, hr299, hR⟩ := hR
   refine Plan.call (vs := [AG [(32, fun q => VU .u8 (oKey5 q))], .slice (if cy0_18 = 0 then (ay0_15 : Option Addr) else (ay0_15 : Option Addr).map (·.add (0 * 1))) (oData6.length - 0) (cy0_18 - 0), .slice (if cy0_26 = 0 then (ay0_23 : Option Addr) else (ay0_23 : Option Addr).map (·.add (0 * 1))) (oB7.length - 0) (cy0_26 - 0)]) rfl FLaw05.call10 rfl (seal_Seal_ok (iG0 := iG0 + 11) hG0 (iG1 := iG1 + 11) hG1 (by exact ((hf20_0.bx 1 rfl).seg (lo := 0) (hi := oData6.length) hc31)) (by exact ((hf28_0.bx 0 rfl).seg (lo := 0) (hi := oB7.length) hc33)) hr299 h30) ?_
   rintro _ w307 ⟨ay0_302, py0_303, ny0_304, cy0_305, Fy0_306, rfl, h307, hf307_0⟩
   try dsimp only at hf307_0
   obtain rfl := hf307_0.hl
   refine ⟨_, rfl, .inr ⟨rfl, ?_⟩⟩
   refine Plan.move_tuple rfl rfl <| Plan.extract_slice rfl rfl rfl <| Plan.extract_int rfl rfl rfl <| Plan.assign_slice rfl rfl <| Plan.assign_int rfl rfl <| Plan.nil (k298 _ _ ?_); clear k298
   refine W.seq_k fun _ k308 => W.regionT [(0, true), (1, true), (2, true), (3, true), (4, true), (5, true), (6, false), (7, true), (8, true), (9, true), (10, true), (11, true)] (by kernel_rfl) ?_
   refine Plan.fieldAddr 1 FLaw05.fld45_1 rfl rfl <| Plan.loadA1 h307 4 rfl rfl rfl FLaw05.agg23 <| Plan.fieldAddr 33 FLaw05.fld45_2 rfl rfl <| Plan.load0 h307 5 rfl rfl rfl (by omega) FLaw05.sc24 <| Plan.fieldAddr 34 FLaw05.fld45_3 rfl rfl <| Plan.load0 h307 6 rfl rfl rfl (by omega) FLaw05.sc24 ?_
   obtain ⟨x_310, x_311, hr309, hR⟩ := hR
   refine Plan.call (vs := [AG [(32, fun q => VU .u8 (oKey5 q))], .slice aoData6 oData6.length coData6, .slice aoB7 oB7.length coB7]) rfl FLaw05.call28 rfl (letheref05_Seal_ok (iG2 := iG2 + 12) hG2 (iG3 := iG3 + 12) hG3 (hoData6.app [_, _, _, _, _, _, _, _, _, _, _, _]) (hoB7.app [_, _, _, _, _, _, _, _, _, _, _, _]) hr309 h307) ?_
   rintro _ w317 ⟨ay0_312, py0_313, ny0_314, cy0_315, Fy0_316, rfl, h317, hf317_0⟩
   try dsimp only at hf317_0
   obtain rfl := hf317_0.hl
   refine ⟨_, rfl, .inr ⟨rfl, ?_⟩⟩
   refine Plan.move_tuple rfl rfl <| Plan.extract_slice rfl rfl rfl <| Plan.extract_int rfl rfl rfl <| Plan.assign_slice rfl rfl <| Plan.assign_int rfl rfl <| Plan.nil (k308 _ _ ?_); clear k308
   refine W.seq_k fun _ k318 => W.regionT [(0, true), (1, true), (2, true), (3, true), (4, true), (5, true), (6, false), (7, true), (8, true)] (by kernel_rfl) ?_
   refine Plan.move_int rfl rfl <| Plan.move_int rfl rfl ?_
   by_cases hc319 : x_301 = x_311
   ·
    replace hR := ifT hR hc319
    refine Plan.cmpV (a := (((x_301 : Nat) : Int) : Int)) (b := (((x_311 : Nat) : Int) : Int)) (p := x_301 = x_311) (v := true) rfl rfl rfl rfl icmp_eqN (decide_eq_true hc319) <| Plan.move_bool rfl rfl <| Plan.move_slice rfl rfl <| Plan.move_slice rfl rfl ?_
    obtain ⟨x_321, hr320, hR⟩ := hR
    refine Plan.call (vs := [.slice ay0_302 x_300.length cy0_305, .slice ay0_312 x_310.length cy0_315]) rfl FLaw05.call14 rfl (lethelaw05_Eq_ok (by exact (hf307_0.bx 1 rfl)) (by exact (hf317_0.bx 0 rfl)) hr320 h317) ?_
    rintro _ w322 ⟨rfl, h322⟩
    refine ⟨_, rfl, .inl ⟨PIn.keep PIn.nil h322, ?_⟩⟩
    refine Plan.pickTb rfl rfl rfl <| Plan.assign_bool rfl rfl <| Plan.nil (k318 _ _ ?_); clear k318
    refine W.regionT [(0, true), (1, true), (2, false)] (by kernel_rfl) ?_
    refine Plan.move_ptr rfl rfl <| Plan.move_slice rfl rfl ?_
    have h323 := St.pickT (C := [_, _, _, _, _, _, _, _, _, _, _, _, _]) h322 [9, 10, 11, 12, 1, 0, 2, 3, 4, 5, 6, 7, 8] (by decide)
    simp only [pick, zfc, zfn, zgz, zgs, zca, zna] at h323
    obtain ⟨x_325, x_326, hr324, hR⟩ := hR
    refine Plan.call (vs := [.pointer (some ⟨bb1, 0, none⟩), .slice ay0_302 x_300.length cy0_305]) rfl FLaw05.call29 rfl (lethelaw05_Book_Note_ok (LP := LP) (by exact fun r hr => List.mem_append_right [_, _, _, _, _, _, _, _] (hLP r hr)) (by exact LO.grow D24_lifts (fun r hr => hr) hbLists2) (by exact LO.grow D24_lifts (fun r hr => hr) hbWant3) (by exact hf307_0) hr324 h323) ?_
    rintro _ w337 ⟨C337, aqbLists2_327, pqbLists2_328, nqbLists2_329, cqbLists2_330, FqbLists2_331, aqbWant3_332, pqbWant3_333, nqbWant3_334, cqbWant3_335, FqbWant3_336, rfl, h337, hf337_0, hf337_1⟩
    try dsimp only at hf337_0 hf337_1
    obtain rfl := hf337_0.hl
    obtain rfl := hf337_1.hl
    replace h337 := St.pool (N := [_, _, _, _]) (R := [_, _, _, _, _, _, _, _]) h337
    obtain ⟨L, hL338⟩ : ∃ X, X = C337 ++ L := ⟨_, rfl⟩
    obtain ⟨LP, hQ338⟩ : ∃ X, X = C337 ++ LP := ⟨_, rfl⟩
    replace hLP : ∀ r ∈ LP, r ∈ L := by rw [hQ338, hL338]; exact frMemGrow hLP
    have h338 := St.re (N := [_, _, _, _, _, _, _, _, _, _, _, _]) hL338 h337
    simp only [zca, zna] at h338
    replace hFr : Fr2 _ _ L LP := hFr.step hL338 hQ338
    replace hFj294 : Fr2 _ _ L LP := hFj294.step hL338 hQ338
    obtain ⟨ix339, hv339⟩ : ∃ i, Bx L i aoData6 oData6.length coData6 oData6 := ⟨_, by rw [hL338]; exact hoData6.app _⟩
    have hp339 : ∃ i, Bx LP i aoData6 oData6.length coData6 oData6 := by rw [hQ338]; exact ⟨_, qoData6.choose_spec.app _⟩
    obtain ⟨ix340, hv340⟩ : ∃ i, Bx L i aoB7 oB7.length coB7 oB7 := ⟨_, by rw [hL338]; exact hoB7.app _⟩
    have hp340 : ∃ i, Bx LP i aoB7 oB7.length coB7 oB7 := by rw [hQ338]; exact ⟨_, qoB7.choose_spec.app _⟩
    have ho341 : LO (D24.at LP) [] aqbLists2_327 pqbLists2_328 (x_325).length cqbLists2_330 FqbLists2_331 x_325 := LO.grow D24_lifts (fun r hr => (by rw [hQ338]; exact hr)) hf337_0
    have ho342 : LO (D24.at LP) [] aqbWant3_332 pqbWant3_333 (x_326).length cqbWant3_335 FqbWant3_336 x_326 := LO.grow D24_lifts (fun r hr => (by rw [hQ338]; exact hr)) hf337_1
    refine ⟨_, rfl, .inl ⟨PIn.keep PIn.nil h338, ?_⟩⟩
    refine Plan.nil ?_
    refine blockR_norm ?_
    have h343 := St.pickT (C := [_, _, _, _, _, _, _, _, _, _, _, _]) h338 [6, 5, 1, 3, 0, 2, 7, 8, 9, 10, 11] (by decide)
    simp only [pick, zfc, zfn, zgz, zgs, zca, zna] at h343
    obtain ⟨CF344, hx344, hy344⟩ := hFj294
    exact ⟨x_14, x_22, x_321, x_325, x_326, hR, CF344, L, hx344, LP, hy344, L, rfl, LP, rfl, hLP, ay0_15, py0_16, cy0_18, Fy0_19, ay0_23, py0_24, cy0_26, Fy0_27, x_325.length, aqbLists2_327, pqbLists2_328, cqbLists2_330, FqbLists2_331, x_326.length, aqbWant3_332, pqbWant3_333, cqbWant3_335, FqbWant3_336, (zer (zer (zer (zer zen)))), h343, hf20_0, hf28_0, ho341, ho342⟩
   ·
    replace hR := ifF hR hc319
    refine Plan.cmpV (a := (((x_301 : Nat) : Int) : Int)) (b := (((x_311 : Nat) : Int) : Int)) (p := x_301 = x_311) (v := false) rfl rfl rfl rfl icmp_eqN (decide_eq_false hc319) <| Plan.move_bool rfl rfl <| Plan.passed rfl <| Plan.passed rfl <| Plan.passed rfl <| Plan.pickFb rfl rfl rfl <| Plan.assign_bool rfl rfl <| Plan.nil (k318 _ _ ?_); clear k318
    refine W.regionT [(0, true), (1, true), (2, false)] (by kernel_rfl) ?_
    refine Plan.move_ptr rfl rfl <| Plan.move_slice rfl rfl ?_
    have h345 := St.pickT (C := [_, _, _, _, _, _, _, _, _, _, _, _, _]) h317 [9, 10, 11, 12, 1, 0, 2, 3, 4, 5, 6, 7, 8] (by decide)
    simp only [pick, zfc, zfn, zgz, zgs, zca, zna] at h345
    obtain ⟨x_347, x_348, hr346, hR⟩ := hR
    refine Plan.call (vs := [.pointer (some ⟨bb1, 0, none⟩), .slice ay0_302 x_300.length cy0_305]) rfl FLaw05.call29 rfl (lethelaw05_Book_Note_ok (LP := LP) (by exact fun r hr => List.mem_append_right [_, _, _, _, _, _, _, _] (hLP r hr)) (by exact LO.grow D24_lifts (fun r hr => hr) hbLists2) (by exact LO.grow D24_lifts (fun r hr => hr) hbWant3) (by exact hf307_0) hr346 h345) ?_
    rintro _ w359 ⟨C359, aqbLists2_349, pqbLists2_350, nqbLists2_351, cqbLists2_352, FqbLists2_353, aqbWant3_354, pqbWant3_355, nqbWant3_356, cqbWant3_357, FqbWant3_358, rfl, h359, hf359_0, hf359_1⟩
    try dsimp only at hf359_0 hf359_1
    obtain rfl := hf359_0.hl
    obtain rfl := hf359_1.hl
    replace h359 := St.pool (N := [_, _, _, _]) (R := [_, _, _, _, _, _, _, _]) h359
    obtain ⟨L, hL360⟩ : ∃ X, X = C359 ++ L := ⟨_, rfl⟩
    obtain ⟨LP, hQ360⟩ : ∃ X, X = C359 ++ LP := ⟨_, rfl⟩
    replace hLP : ∀ r ∈ LP, r ∈ L := by rw [hQ360, hL360]; exact frMemGrow hLP
    have h360 := St.re (N := [_, _, _, _, _, _, _, _, _, _, _, _]) hL360 h359
    simp only [zca, zna] at h360
    replace hFr : Fr2 _ _ L LP := hFr.step hL360 hQ360
    replace hFj294 : Fr2 _ _ L LP := hFj294.step hL360 hQ360
    obtain ⟨ix361, hv361⟩ : ∃ i, Bx L i aoData6 oData6.length coData6 oData6 := ⟨_, by rw [hL360]; exact hoData6.app _⟩
    have hp361 : ∃ i, Bx LP i aoData6 oData6.length coData6 oData6 := by rw [hQ360]; exact ⟨_, qoData6.choose_spec.app _⟩
    obtain ⟨ix362, hv362⟩ : ∃ i, Bx L i aoB7 oB7.length coB7 oB7 := ⟨_, by rw [hL360]; exact hoB7.app _⟩
    have hp362 : ∃ i, Bx LP i aoB7 oB7.length coB7 oB7 := by rw [hQ360]; exact ⟨_, qoB7.choose_spec.app _⟩
    have ho363 : LO (D24.at LP) [] aqbLists2_349 pqbLists2_350 (x_347).length cqbLists2_352 FqbLists2_353 x_347 := LO.grow D24_lifts (fun r hr => (by rw [hQ360]; exact hr)) hf359_0
    have ho364 : LO (D24.at LP) [] aqbWant3_354 pqbWant3_355 (x_348).length cqbWant3_357 FqbWant3_358 x_348 := LO.grow D24_lifts (fun r hr => (by rw [hQ360]; exact hr)) hf359_1
    refine ⟨_, rfl, .inl ⟨PIn.keep PIn.nil h360, ?_⟩⟩
    refine Plan.nil ?_
    refine blockR_norm ?_
    have h365 := St.pickT (C := [_, _, _, _, _, _, _, _, _, _, _, _]) h360 [6, 5, 1, 3, 0, 2, 7, 8, 9, 10, 11] (by decide)
    simp only [pick, zfc, zfn, zgz, zgs, zca, zna] at h365
    obtain ⟨CF366, hx366, hy366⟩ := hFj294
    exact ⟨x_14, x_22, false, x_347, x_348, hR, CF366, L, hx366, LP, hy366, L, rfl, LP, rfl, hLP, ay0_15, py0_16, cy0_18, Fy0_19, ay0_23, py0_24, cy0_26, Fy0_27, x_347.length, aqbLists2_349, pqbLists2_350, cqbLists2_352, FqbLists2_353, x_348.length, aqbWant3_354, pqbWant3_355, cqbWant3_357, FqbWant3_358, (zer (zer (zer (zer zen)))), h365, hf20_0, hf28_0, ho363, ho364⟩
  ·
   replace hR := ifF hR hc297
   refine W.condF (congrArg Value.bool (decide_eq_false hc297)) ?_
   refine W.seq_k fun _ k367 => W.regionT [(0, true), (1, true)] (by kernel_rfl) ?_
   refine Plan.cmpP (a := (oKind4 : Int)) (b := (2 : Int)) (p := oKind4 = 2) rfl rfl rfl rfl icmp_eq <| Plan.assign_bool rfl rfl <| Plan.nil (k367 _ _ ?_); clear k367
   by_cases hc368 : oKind4 = 2
   ·
    replace hR := ifT hR hc368
    refine W.condT (congrArg Value.bool (decide_eq_true hc368)) ?_
    refine W.seq_k fun _ k369 => W.regionT [(0, true), (1, true), (2, true), (3, true), (4, false), (5, true), (6, true), (7, true), (8, true), (9, true)] (by kernel_rfl) ?_
    refine Plan.fieldAddr 1 FLaw05.fld45_1 rfl rfl <| Plan.loadA1 h30 3 rfl rfl rfl FLaw05.agg23 <| Plan.move_slice rfl rfl <| Plan.move_slice rfl rfl ?_
    obtain ⟨x_371, x_372, hr370, hR⟩ := hR
    refine Plan.call (vs := [AG [(32, fun q => VU .u8 (oKey5 q))], .slice (if cy0_18 = 0 then (ay0_15 : Option Addr) else (ay0_15 : Option Addr).map (·.add (0 * 1))) (oData6.length - 0) (cy0_18 - 0), .slice (if cy0_26 = 0 then (ay0_23 : Option Addr) else (ay0_23 : Option Addr).map (·.add (0 * 1))) (oB7.length - 0) (cy0_26 - 0)]) rfl FLaw05.call12 rfl (seal_Open_ok (iG0 := iG0 + 11) hG0 (iG1 := iG1 + 11) hG1 (by exact ((hf20_0.bx 1 rfl).seg (lo := 0) (hi := oData6.length) hc31)) (by exact ((hf28_0.bx 0 rfl).seg (lo := 0) (hi := oB7.length) hc33)) hr370 h30) ?_
    rintro _ w378 ⟨ay0_373, py0_374, ny0_375, cy0_376, Fy0_377, rfl, h378, hf378_0⟩
    try dsimp only at hf378_0
    obtain rfl := hf378_0.hl
    refine ⟨_, rfl, .inr ⟨rfl, ?_⟩⟩
    refine Plan.move_tuple rfl rfl <| Plan.extract_slice rfl rfl rfl <| Plan.extract_int rfl rfl rfl <| Plan.assign_slice rfl rfl <| Plan.assign_int rfl rfl <| Plan.nil (k369 _ _ ?_); clear k369
    refine W.seq_k fun _ k379 => W.regionT [(0, true), (1, true), (2, true), (3, true), (4, true), (5, true), (6, false), (7, true), (8, true), (9, true), (10, true), (11, true)] (by kernel_rfl) ?_
    refine Plan.fieldAddr 1 FLaw05.fld45_1 rfl rfl <| Plan.loadA1 h378 4 rfl rfl rfl FLaw05.agg23 <| Plan.fieldAddr 33 FLaw05.fld45_2 rfl rfl <| Plan.load0 h378 5 rfl rfl rfl (by omega) FLaw05.sc24 <| Plan.fieldAddr 34 FLaw05.fld45_3 rfl rfl <| Plan.load0 h378 6 rfl rfl rfl (by omega) FLaw05.sc24 ?_
    obtain ⟨x_381, x_382, hr380, hR⟩ := hR
    refine Plan.call (vs := [AG [(32, fun q => VU .u8 (oKey5 q))], .slice aoData6 oData6.length coData6, .slice aoB7 oB7.length coB7]) rfl FLaw05.call30 rfl (letheref05_Open_ok (iG2 := iG2 + 12) hG2 (iG3 := iG3 + 12) hG3 (hoData6.app [_, _, _, _, _, _, _, _, _, _, _, _]) (hoB7.app [_, _, _, _, _, _, _, _, _, _, _, _]) hr380 h378) ?_
    rintro _ w388 ⟨ay0_383, py0_384, ny0_385, cy0_386, Fy0_387, rfl, h388, hf388_0⟩
    try dsimp only at hf388_0
    obtain rfl := hf388_0.hl
    refine ⟨_, rfl, .inr ⟨rfl, ?_⟩⟩
    refine Plan.move_tuple rfl rfl <| Plan.extract_slice rfl rfl rfl <| Plan.extract_int rfl rfl rfl <| Plan.assign_slice rfl rfl <| Plan.assign_int rfl rfl <| Plan.nil (k379 _ _ ?_); clear k379
    refine W.seq_k fun _ k389 => W.regionT [(0, true), (1, true), (2, true), (3, true), (4, true), (5, true), (6, false), (7, true), (8, true)] (by kernel_rfl) ?_
    refine Plan.move_int rfl rfl <| Plan.move_int rfl rfl ?_
    by_cases hc390 : x_372 = x_382
    ·
     replace hR := ifT hR hc390
     refine Plan.cmpV (a := (((x_372 : Nat) : Int) : Int)) (b := (((x_382 : Nat) : Int) : Int)) (p := x_372 = x_382) (v := true) rfl rfl rfl rfl icmp_eqN (decide_eq_true hc390) <| Plan.move_bool rfl rfl <| Plan.move_slice rfl rfl <| Plan.move_slice rfl rfl ?_
     obtain ⟨x_392, hr391, hR⟩ := hR
     refine Plan.call (vs := [.slice ay0_373 x_371.length cy0_376, .slice ay0_383 x_381.length cy0_386]) rfl FLaw05.call14 rfl (lethelaw05_Eq_ok (by exact (hf378_0.bx 1 rfl)) (by exact (hf388_0.bx 0 rfl)) hr391 h388) ?_
     rintro _ w393 ⟨rfl, h393⟩
     refine ⟨_, rfl, .inl ⟨PIn.keep PIn.nil h393, ?_⟩⟩
     refine Plan.pickTb rfl rfl rfl <| Plan.assign_bool rfl rfl <| Plan.nil (k389 _ _ ?_); clear k389
     refine W.regionT [(0, true), (1, true), (2, false)] (by kernel_rfl) ?_
     refine Plan.move_ptr rfl rfl <| Plan.move_slice rfl rfl ?_
     have h394 := St.pickT (C := [_, _, _, _, _, _, _, _, _, _, _, _, _]) h393 [9, 10, 11, 12, 1, 0, 2, 3, 4, 5, 6, 7, 8] (by decide)
     simp only [pick, zfc, zfn, zgz, zgs, zca, zna] at h394
     obtain ⟨x_396, x_397, hr395, hR⟩ := hR
     refine Plan.call (vs := [.pointer (some ⟨bb1, 0, none⟩), .slice ay0_373 x_371.length cy0_376]) rfl FLaw05.call29 rfl (lethelaw05_Book_Note_ok (LP := LP) (by exact fun r hr => List.mem_append_right [_, _, _, _, _, _, _, _] (hLP r hr)) (by exact LO.grow D24_lifts (fun r hr => hr) hbLists2) (by exact LO.grow D24_lifts (fun r hr => hr) hbWant3) (by exact hf378_0) hr395 h394) ?_
     rintro _ w408 ⟨C408, aqbLists2_398, pqbLists2_399, nqbLists2_400, cqbLists2_401, FqbLists2_402, aqbWant3_403, pqbWant3_404, nqbWant3_405, cqbWant3_406, FqbWant3_407, rfl, h408, hf408_0, hf408_1⟩
     try dsimp only at hf408_0 hf408_1
     obtain rfl := hf408_0.hl
     obtain rfl := hf408_1.hl
     replace h408 := St.pool (N := [_, _, _, _]) (R := [_, _, _, _, _, _, _, _]) h408
     obtain ⟨L, hL409⟩ : ∃ X, X = C408 ++ L := ⟨_, rfl⟩
     obtain ⟨LP, hQ409⟩ : ∃ X, X = C408 ++ LP := ⟨_, rfl⟩
     replace hLP : ∀ r ∈ LP, r ∈ L := by rw [hQ409, hL409]; exact frMemGrow hLP
     have h409 := St.re (N := [_, _, _, _, _, _, _, _, _, _, _, _]) hL409 h408
     simp only [zca, zna] at h409
     replace hFr : Fr2 _ _ L LP := hFr.step hL409 hQ409
     replace hFj294 : Fr2 _ _ L LP := hFj294.step hL409 hQ409
     obtain ⟨ix410, hv410⟩ : ∃ i, Bx L i aoData6 oData6.length coData6 oData6 := ⟨_, by rw [hL409]; exact hoData6.app _⟩
     have hp410 : ∃ i, Bx LP i aoData6 oData6.length coData6 oData6 := by rw [hQ409]; exact ⟨_, qoData6.choose_spec.app _⟩
     obtain ⟨ix411, hv411⟩ : ∃ i, Bx L i aoB7 oB7.length coB7 oB7 := ⟨_, by rw [hL409]; exact hoB7.app _⟩
     have hp411 : ∃ i, Bx LP i aoB7 oB7.length coB7 oB7 := by rw [hQ409]; exact ⟨_, qoB7.choose_spec.app _⟩
     have ho412 : LO (D24.at LP) [] aqbLists2_398 pqbLists2_399 (x_396).length cqbLists2_401 FqbLists2_402 x_396 := LO.grow D24_lifts (fun r hr => (by rw [hQ409]; exact hr)) hf408_0
     have ho413 : LO (D24.at LP) [] aqbWant3_403 pqbWant3_404 (x_397).length cqbWant3_406 FqbWant3_407 x_397 := LO.grow D24_lifts (fun r hr => (by rw [hQ409]; exact hr)) hf408_1
     refine ⟨_, rfl, .inl ⟨PIn.keep PIn.nil h409, ?_⟩⟩
     refine Plan.nil ?_
     refine blockR_norm ?_
     have h414 := St.pickT (C := [_, _, _, _, _, _, _, _, _, _, _, _]) h409 [6, 5, 1, 3, 0, 2, 7, 8, 9, 10, 11] (by decide)
     simp only [pick, zfc, zfn, zgz, zgs, zca, zna] at h414
     obtain ⟨CF415, hx415, hy415⟩ := hFj294
     exact ⟨x_14, x_22, x_392, x_396, x_397, hR, CF415, L, hx415, LP, hy415, L, rfl, LP, rfl, hLP, ay0_15, py0_16, cy0_18, Fy0_19, ay0_23, py0_24, cy0_26, Fy0_27, x_396.length, aqbLists2_398, pqbLists2_399, cqbLists2_401, FqbLists2_402, x_397.length, aqbWant3_403, pqbWant3_404, cqbWant3_406, FqbWant3_407, (zer (zer (zer (zer zen)))), h414, hf20_0, hf28_0, ho412, ho413⟩
    ·
     replace hR := ifF hR hc390
     refine Plan.cmpV (a := (((x_372 : Nat) : Int) : Int)) (b := (((x_382 : Nat) : Int) : Int)) (p := x_372 = x_382) (v := false) rfl rfl rfl rfl icmp_eqN (decide_eq_false hc390) <| Plan.move_bool rfl rfl <| Plan.passed rfl <| Plan.passed rfl <| Plan.passed rfl <| Plan.pickFb rfl rfl rfl <| Plan.assign_bool rfl rfl <| Plan.nil (k389 _ _ ?_); clear k389
     refine W.regionT [(0, true), (1, true), (2, false)] (by kernel_rfl) ?_
     refine Plan.move_ptr rfl rfl <| Plan.move_slice rfl rfl ?_
     have h416 := St.pickT (C := [_, _, _, _, _, _, _, _, _, _, _, _, _]) h388 [9, 10, 11, 12, 1, 0, 2, 3, 4, 5, 6, 7, 8] (by decide)
     simp only [pick, zfc, zfn, zgz, zgs, zca, zna] at h416
     obtain ⟨x_418, x_419, hr417, hR⟩ := hR
     refine Plan.call (vs := [.pointer (some ⟨bb1, 0, none⟩), .slice ay0_373 x_371.length cy0_376]) rfl FLaw05.call29 rfl (lethelaw05_Book_Note_ok (LP := LP) (by exact fun r hr => List.mem_append_right [_, _, _, _, _, _, _, _] (hLP r hr)) (by exact LO.grow D24_lifts (fun r hr => hr) hbLists2) (by exact LO.grow D24_lifts (fun r hr => hr) hbWant3) (by exact hf378_0) hr417 h416) ?_
     rintro _ w430 ⟨C430, aqbLists2_420, pqbLists2_421, nqbLists2_422, cqbLists2_423, FqbLists2_424, aqbWant3_425, pqbWant3_426, nqbWant3_427, cqbWant3_428, FqbWant3_429, rfl, h430, hf430_0, hf430_1⟩
     try dsimp only at hf430_0 hf430_1
     obtain rfl := hf430_0.hl
     obtain rfl := hf430_1.hl
     replace h430 := St.pool (N := [_, _, _, _]) (R := [_, _, _, _, _, _, _, _]) h430
     obtain ⟨L, hL431⟩ : ∃ X, X = C430 ++ L := ⟨_, rfl⟩
     obtain ⟨LP, hQ431⟩ : ∃ X, X = C430 ++ LP := ⟨_, rfl⟩
     replace hLP : ∀ r ∈ LP, r ∈ L := by rw [hQ431, hL431]; exact frMemGrow hLP
     have h431 := St.re (N := [_, _, _, _, _, _, _, _, _, _, _, _]) hL431 h430
     simp only [zca, zna] at h431
     replace hFr : Fr2 _ _ L LP := hFr.step hL431 hQ431
     replace hFj294 : Fr2 _ _ L LP := hFj294.step hL431 hQ431
     obtain ⟨ix432, hv432⟩ : ∃ i, Bx L i aoData6 oData6.length coData6 oData6 := ⟨_, by rw [hL431]; exact hoData6.app _⟩
     have hp432 : ∃ i, Bx LP i aoData6 oData6.length coData6 oData6 := by rw [hQ431]; exact ⟨_, qoData6.choose_spec.app _⟩
     obtain ⟨ix433, hv433⟩ : ∃ i, Bx L i aoB7 oB7.length coB7 oB7 := ⟨_, by rw [hL431]; exact hoB7.app _⟩
     have hp433 : ∃ i, Bx LP i aoB7 oB7.length coB7 oB7 := by rw [hQ431]; exact ⟨_, qoB7.choose_spec.app _⟩
     have ho434 : LO (D24.at LP) [] aqbLists2_420 pqbLists2_421 (x_418).length cqbLists2_423 FqbLists2_424 x_418 := LO.grow D24_lifts (fun r hr => (by rw [hQ431]; exact hr)) hf430_0
     have ho435 : LO (D24.at LP) [] aqbWant3_425 pqbWant3_426 (x_419).length cqbWant3_428 FqbWant3_429 x_419 := LO.grow D24_lifts (fun r hr => (by rw [hQ431]; exact hr)) hf430_1
     refine ⟨_, rfl, .inl ⟨PIn.keep PIn.nil h431, ?_⟩⟩
     refine Plan.nil ?_
     refine blockR_norm ?_
     have h436 := St.pickT (C := [_, _, _, _, _, _, _, _, _, _, _, _]) h431 [6, 5, 1, 3, 0, 2, 7, 8, 9, 10, 11] (by decide)
     simp only [pick, zfc, zfn, zgz, zgs, zca, zna] at h436
     obtain ⟨CF437, hx437, hy437⟩ := hFj294
     exact ⟨x_14, x_22, false, x_418, x_419, hR, CF437, L, hx437, LP, hy437, L, rfl, LP, rfl, hLP, ay0_15, py0_16, cy0_18, Fy0_19, ay0_23, py0_24, cy0_26, Fy0_27, x_418.length, aqbLists2_420, pqbLists2_421, cqbLists2_423, FqbLists2_424, x_419.length, aqbWant3_425, pqbWant3_426, cqbWant3_428, FqbWant3_429, (zer (zer (zer (zer zen)))), h436, hf20_0, hf28_0, ho434, ho435⟩
   ·
    replace hR := ifF hR hc368
    refine W.condF (congrArg Value.bool (decide_eq_false hc368)) ?_
    refine W.seq_k fun _ k438 => W.regionT [(0, true), (1, true)] (by kernel_rfl) ?_
    refine Plan.cmpP (a := (oKind4 : Int)) (b := (3 : Int)) (p := oKind4 = 3) rfl rfl rfl rfl icmp_eq <| Plan.assign_bool rfl rfl <| Plan.nil (k438 _ _ ?_); clear k438
    by_cases hc439 : oKind4 = 3
    ·
     replace hR := ifT hR hc439
     refine W.condT (congrArg Value.bool (decide_eq_true hc439)) ?_
     refine W.seq_k fun _ k440 => ?_
     refine W.regionD FLaw05.mixed [(0, true), (1, true), (3, true), (4, true), (2, false), (5, false), (6, true), (7, true)] (by kernel_rfl) ?_
     have h441 := h30.drew
     refine Plan.fieldAddr 35 FLaw05.fld45_4 rfl rfl <| Plan.load0 h441 6 rfl rfl rfl (by omega) FLaw05.sc3 <| Plan.fieldAddr 35 FLaw05.fld45_4 rfl rfl <| Plan.load0 h441 6 rfl rfl rfl (by omega) FLaw05.sc3 ?_
     obtain ⟨x_443, hr442, hR⟩ := hR
     refine Plan.call (vs := [.int .i64 oN8]) rfl FLaw05.call18 rfl (seal_Length_ok  hr442 h441) ?_
     rintro _ w444 ⟨rfl, h444⟩
     refine ⟨_, rfl, .inl ⟨PIn.keep (PIn.cons 6 rfl (PIn.cons 6 rfl PIn.nil)) h444, ?_⟩⟩
     obtain ⟨x_446, hr445, hR⟩ := hR
     refine Plan.call (vs := [.int .i64 oN8]) rfl FLaw05.call31 rfl (letheref05_Length_ok  hr445 h444) ?_
     rintro _ w447 ⟨rfl, h447⟩
     refine ⟨_, rfl, .inl ⟨PIn.keep (PIn.cons 6 rfl (PIn.cons 6 rfl PIn.nil)) h447, ?_⟩⟩
     refine Plan.cmpP (a := (x_443 : Int)) (b := (x_446 : Int)) (p := x_443 = x_446) rfl rfl rfl rfl icmp_eq <| Plan.assign_bool rfl rfl <| Plan.nil (k440 _ _ ?_); clear k440
     refine W.ret (blockR_ret (thenR_ret (thenR_ret (finR_ret ?_))))
     have h448 := St.pickT (C := [_, _, _, _, _, _, _, _, _, _, _]) h447 [7, 8, 9, 10] (by decide)
     simp only [pick, zfc, zfn, zgz, zgs, zca, zna] at h448
     replace hR := hR.2
     subst r
     refine RetOk.mk (.tmp_bool rfl .nil) ?_
     exact ⟨[], abLists2, pbLists2, bLists2.length, cbLists2, FbLists2, abWant3, pbWant3, bWant3.length, cbWant3, FbWant3, rfl, h448, hbLists2, hbWant3⟩
    ·
     replace hR := ifF hR hc439
     refine W.condF (congrArg Value.bool (decide_eq_false hc439)) ?_
     refine W.seq_k fun _ k449 => W.regionT [(0, true), (1, true)] (by kernel_rfl) ?_
     refine Plan.cmpP (a := (oKind4 : Int)) (b := (4 : Int)) (p := oKind4 = 4) rfl rfl rfl rfl icmp_eq <| Plan.assign_bool rfl rfl <| Plan.nil (k449 _ _ ?_); clear k449
     by_cases hc450 : oKind4 = 4
     ·
      replace hR := ifT hR hc450
      refine W.condT (congrArg Value.bool (decide_eq_true hc450)) ?_
      refine W.seq_k fun _ k451 => W.regionT [(0, true), (1, true), (2, true), (3, true), (4, true), (5, true), (6, false), (7, true), (8, true), (9, true), (10, true), (11, true)] (by kernel_rfl) ?_
      refine Plan.fieldAddr 1 FLaw05.fld45_1 rfl rfl <| Plan.loadA1 h30 3 rfl rfl rfl FLaw05.agg23 <| Plan.fieldAddr 33 FLaw05.fld45_2 rfl rfl <| Plan.load0 h30 4 rfl rfl rfl (by omega) FLaw05.sc24 <| Plan.fieldAddr 34 FLaw05.fld45_3 rfl rfl <| Plan.load0 h30 5 rfl rfl rfl (by omega) FLaw05.sc24 ?_
      obtain ⟨x_453, x_454, hr452, hR⟩ := hR
      refine Plan.call (vs := [AG [(32, fun q => VU .u8 (oKey5 q))], .slice aoData6 oData6.length coData6, .slice aoB7 oB7.length coB7]) rfl FLaw05.call28 rfl (letheref05_Seal_ok (iG2 := iG2 + 11) hG2 (iG3 := iG3 + 11) hG3 (hoData6.app [_, _, _, _, _, _, _, _, _, _, _]) (hoB7.app [_, _, _, _, _, _, _, _, _, _, _]) hr452 h30) ?_
      rintro _ w460 ⟨ay0_455, py0_456, ny0_457, cy0_458, Fy0_459, rfl, h460, hf460_0⟩
      try dsimp only at hf460_0
      obtain rfl := hf460_0.hl
      refine ⟨_, rfl, .inr ⟨rfl, ?_⟩⟩
      refine Plan.move_tuple rfl rfl <| Plan.extract_slice rfl rfl rfl <| Plan.extract_int rfl rfl rfl <| Plan.assign_slice rfl rfl <| Plan.assign_int rfl rfl <| Plan.nil (k451 _ _ ?_); clear k451
      refine W.seq_k fun _ k461 => W.seq_k fun _ k462 => ?_
      refine W.regionT [(0, true), (1, true)] (by kernel_rfl) ?_
      refine Plan.move_int rfl rfl <| Plan.cmpP (a := (((x_454 : Nat) : Int) : Int)) (b := (0 : Int)) (p := x_454 ≠ 0) rfl rfl rfl rfl icmp_neN <| Plan.nil (k462 _ _ ?_); clear k462
      by_cases hc463 : x_454 ≠ 0
      ·
       replace hR := ifT hR hc463
       refine W.condT (congrArg Value.bool (decide_eq_true hc463)) ?_
       refine W.seq_k fun _ k464 => W.regionT [(0, true)] (by kernel_rfl) ?_
       refine Plan.assign_bool rfl rfl <| Plan.nil (k464 _ _ ?_); clear k464
       refine W.ret (thenR_ret (blockR_ret (thenR_ret (thenR_ret (finR_ret ?_)))))
       have h465 := St.pickT (C := [_, _, _, _, _, _, _, _, _, _, _, _]) h460 [8, 9, 10, 11] (by decide)
       simp only [pick, zfc, zfn, zgz, zgs, zca, zna] at h465
       replace hR := hR.2
       subst r
       refine RetOk.mk (.tmp_bool rfl .nil) ?_
       exact ⟨[], abLists2, pbLists2, bLists2.length, cbLists2, FbLists2, abWant3, pbWant3, bWant3.length, cbWant3, FbWant3, rfl, h465, hbLists2, hbWant3⟩
      ·
       replace hR := ifF hR hc463
       refine W.condF (congrArg Value.bool (decide_eq_false hc463)) ?_
       refine W.skip ?_
       refine k461 _ _ ?_; clear k461
       refine W.seq_k fun _ k466 => W.regionT [(0, true), (1, false), (2, true)] (by kernel_rfl) ?_
       refine Plan.move_slice rfl rfl ?_
       obtain ⟨x_468, hr467, hR⟩ := hR
       refine Plan.call (vs := [.slice ay0_455 x_453.length cy0_458]) rfl FLaw05.call27 rfl (lethelaw05_Room_ok (by exact (hf460_0.bx 0 rfl)) hr467 h460) ?_
       rintro _ w474 ⟨ay0_469, py0_470, ny0_471, cy0_472, Fy0_473, rfl, h474, hf474_0⟩
       obtain rfl := hf474_0.hl
       refine ⟨_, rfl, .inl ⟨PIn.keep PIn.nil h474, ?_⟩⟩
       refine Plan.assign_slice rfl rfl <| Plan.nil (k466 _ _ ?_); clear k466
       refine W.seq_k fun _ k475 => ?_
       refine W.regionD FLaw05.mixed [(0, true), (1, true), (2, true), (3, true), (4, true), (5, true), (6, true), (7, false), (8, true), (9, true), (10, true), (11, true), (12, true)] (by kernel_rfl) ?_
       have h476 := h474.drew
       refine Plan.fieldAddr 1 FLaw05.fld45_1 rfl rfl <| Plan.loadA1 h476 5 rfl rfl rfl FLaw05.agg23 <| Plan.move_slice rfl rfl <| Plan.move_slice rfl rfl <| Plan.move_slice rfl rfl <| Plan.len FLaw05.isl24 rfl rfl ?_
       obtain ⟨hc477, hR⟩ := hR
       have hm478 := hf474_0.hc
       refine Plan.slSl (lo := 0) (hi := x_453.length) FLaw05.sl24 rfl rfl rfl ⟨_, rfl⟩ (by omega) ?_
       obtain ⟨x_480, x_481, hr479, hR⟩ := hR
       refine Plan.call (vs := [AG [(32, fun q => VU .u8 (oKey5 q))], .slice (if cy0_18 = 0 then (ay0_15 : Option Addr) else (ay0_15 : Option Addr).map (·.add (0 * 1))) (oData6.length - 0) (cy0_18 - 0), .slice (if cy0_472 = 0 then (ay0_469 : Option Addr) else (ay0_469 : Option Addr).map (·.add (0 * 1))) (x_453.length - 0) (cy0_472 - 0)]) rfl FLaw05.call12 rfl (seal_Open_ok (iG0 := iG0 + 13) hG0 (iG1 := iG1 + 13) hG1 (by exact ((hf20_0.bx 3 rfl).seg (lo := 0) (hi := oData6.length) hc31)) (by exact ((hf474_0.bx 0 rfl).seg (lo := 0) (hi := x_453.length) hc477)) hr479 h476) ?_
       rintro _ w487 ⟨ay0_482, py0_483, ny0_484, cy0_485, Fy0_486, rfl, h487, hf487_0⟩
       try dsimp only at hf487_0
       obtain rfl := hf487_0.hl
       refine ⟨_, rfl, .inr ⟨rfl, ?_⟩⟩
       refine Plan.move_tuple rfl rfl <| Plan.extract_slice rfl rfl rfl <| Plan.extract_int rfl rfl rfl <| Plan.assign_slice rfl rfl <| Plan.assign_int rfl rfl <| Plan.nil (k475 _ _ ?_); clear k475
       refine W.seq_k fun _ k488 => W.regionT [(0, true), (1, true), (2, true), (3, true), (4, true), (5, true), (6, false), (7, true), (8, true), (9, true), (10, true), (11, false), (12, true), (13, true)] (by kernel_rfl) ?_
       refine Plan.move_int rfl rfl ?_
       by_cases hc489 : x_481 = 0
       ·
        replace hR := ifT hR hc489
        refine Plan.cmpV (a := (((x_481 : Nat) : Int) : Int)) (b := (0 : Int)) (p := x_481 = 0) (v := true) rfl rfl rfl rfl icmp_eqN (decide_eq_true hc489) <| Plan.move_bool rfl rfl <| Plan.move_slice rfl rfl <| Plan.fieldAddr 34 FLaw05.fld45_3 rfl rfl <| Plan.load0 h487 8 rfl rfl rfl (by omega) FLaw05.sc24 ?_
        obtain ⟨x_491, hr490, hR⟩ := hR
        refine Plan.call (vs := [.slice ay0_482 x_480.length cy0_485, .slice aoB7 oB7.length coB7]) rfl FLaw05.call14 rfl (lethelaw05_Eq_ok (by exact (hf487_0.bx 0 rfl)) (hoB7.app [_, _, _, _, _, _, _, _, _, _, _, _, _, _]) hr490 h487) ?_
        rintro _ w492 ⟨rfl, h492⟩
        refine ⟨_, rfl, .inr ⟨rfl, ?_⟩⟩
        by_cases hc493 : x_491 = true
        ·
         replace hR := ifT hR hc493
         obtain rfl : x_491 = true := hc493
         refine Plan.pickTb rfl rfl rfl <| Plan.move_bool rfl rfl <| Plan.move_slice rfl rfl <| Plan.move_slice rfl rfl ?_
         obtain ⟨x_495, hr494, hR⟩ := hR
         refine Plan.call (vs := [.slice ay0_469 x_468.length cy0_472, .slice ay0_455 x_453.length cy0_458]) rfl FLaw05.call32 rfl (lethelaw05_Kept_ok (by exact (hf474_0.bx 1 rfl)) (by exact (hf460_0.bx 2 rfl)) hr494 h492) ?_
         rintro _ w496 ⟨rfl, h496⟩
         refine ⟨_, rfl, .inl ⟨PIn.keep PIn.nil h496, ?_⟩⟩
         refine Plan.pickTb rfl rfl rfl <| Plan.assign_bool rfl rfl <| Plan.nil (k488 _ _ ?_); clear k488
         refine W.regionT [(0, true), (1, true), (2, false)] (by kernel_rfl) ?_
         refine Plan.move_ptr rfl rfl <| Plan.move_slice rfl rfl ?_
         have h497 := St.pickT (C := [_, _, _, _, _, _, _, _, _, _, _, _, _, _]) h496 [10, 11, 12, 13, 0, 1, 2, 3, 4, 5, 6, 7, 8, 9] (by decide)
         simp only [pick, zfc, zfn, zgz, zgs, zca, zna] at h497
         obtain ⟨x_499, x_500, hr498, hR⟩ := hR
         refine Plan.call (vs := [.pointer (some ⟨bb1, 0, none⟩), .slice ay0_482 x_480.length cy0_485]) rfl FLaw05.call29 rfl (lethelaw05_Book_Note_ok (LP := LP) (by exact fun r hr => List.mem_append_right [_, _, _, _, _, _, _, _, _] (hLP r hr)) (by exact LO.grow D24_lifts (fun r hr => hr) hbLists2) (by exact LO.grow D24_lifts (fun r hr => hr) hbWant3) (by exact hf487_0) hr498 h497) ?_
         rintro _ w511 ⟨C511, aqbLists2_501, pqbLists2_502, nqbLists2_503, cqbLists2_504, FqbLists2_505, aqbWant3_506, pqbWant3_507, nqbWant3_508, cqbWant3_509, FqbWant3_510, rfl, h511, hf511_0, hf511_1⟩
         try dsimp only at hf511_0 hf511_1
         obtain rfl := hf511_0.hl
         obtain rfl := hf511_1.hl
         replace h511 := St.pool (N := [_, _, _, _]) (R := [_, _, _, _, _, _, _, _, _]) h511
         obtain ⟨L, hL512⟩ : ∃ X, X = C511 ++ L := ⟨_, rfl⟩
         obtain ⟨LP, hQ512⟩ : ∃ X, X = C511 ++ LP := ⟨_, rfl⟩
         replace hLP : ∀ r ∈ LP, r ∈ L := by rw [hQ512, hL512]; exact frMemGrow hLP
         have h512 := St.re (N := [_, _, _, _, _, _, _, _, _, _, _, _, _]) hL512 h511
         simp only [zca, zna] at h512
         replace hFr : Fr2 _ _ L LP := hFr.step hL512 hQ512
         replace hFj294 : Fr2 _ _ L LP := hFj294.step hL512 hQ512
         obtain ⟨ix513, hv513⟩ : ∃ i, Bx L i aoData6 oData6.length coData6 oData6 := ⟨_, by rw [hL512]; exact hoData6.app _⟩
         have hp513 : ∃ i, Bx LP i aoData6 oData6.length coData6 oData6 := by rw [hQ512]; exact ⟨_, qoData6.choose_spec.app _⟩
         obtain ⟨ix514, hv514⟩ : ∃ i, Bx L i aoB7 oB7.length coB7 oB7 := ⟨_, by rw [hL512]; exact hoB7.app _⟩
         have hp514 : ∃ i, Bx LP i aoB7 oB7.length coB7 oB7 := by rw [hQ512]; exact ⟨_, qoB7.choose_spec.app _⟩
         have ho515 : LO (D24.at LP) [] aqbLists2_501 pqbLists2_502 (x_499).length cqbLists2_504 FqbLists2_505 x_499 := LO.grow D24_lifts (fun r hr => (by rw [hQ512]; exact hr)) hf511_0
         have ho516 : LO (D24.at LP) [] aqbWant3_506 pqbWant3_507 (x_500).length cqbWant3_509 FqbWant3_510 x_500 := LO.grow D24_lifts (fun r hr => (by rw [hQ512]; exact hr)) hf511_1
         refine ⟨_, rfl, .inl ⟨PIn.keep PIn.nil h512, ?_⟩⟩
         refine Plan.nil ?_
         refine blockR_norm ?_
         have h517 := St.pickT (C := [_, _, _, _, _, _, _, _, _, _, _, _, _]) h512 [7, 6, 1, 3, 0, 2, 8, 9, 10, 11, 12] (by decide)
         simp only [pick, zfc, zfn, zgz, zgs, zca, zna] at h517
         obtain ⟨CF518, hx518, hy518⟩ := hFj294
         exact ⟨x_14, x_22, x_495, x_499, x_500, hR, CF518, L, hx518, LP, hy518, L, rfl, LP, rfl, hLP, ay0_15, py0_16, cy0_18, Fy0_19, ay0_23, py0_24, cy0_26, Fy0_27, x_499.length, aqbLists2_501, pqbLists2_502, cqbLists2_504, FqbLists2_505, x_500.length, aqbWant3_506, pqbWant3_507, cqbWant3_509, FqbWant3_510, (zer (zer (zer (zer zen)))), h517, hf20_0, hf28_0, ho515, ho516⟩
        ·
         replace hR := ifF hR hc493
         obtain rfl : x_491 = false := Bool.eq_false_iff.2 hc493
         refine Plan.pickTb rfl rfl rfl <| Plan.move_bool rfl rfl <| Plan.passed rfl <| Plan.passed rfl <| Plan.passed rfl <| Plan.pickFb rfl rfl rfl <| Plan.assign_bool rfl rfl <| Plan.nil (k488 _ _ ?_); clear k488
         refine W.regionT [(0, true), (1, true), (2, false)] (by kernel_rfl) ?_
         refine Plan.move_ptr rfl rfl <| Plan.move_slice rfl rfl ?_
         have h519 := St.pickT (C := [_, _, _, _, _, _, _, _, _, _, _, _, _, _]) h492 [10, 11, 12, 13, 0, 1, 2, 3, 4, 5, 6, 7, 8, 9] (by decide)
         simp only [pick, zfc, zfn, zgz, zgs, zca, zna] at h519
         obtain ⟨x_521, x_522, hr520, hR⟩ := hR
         refine Plan.call (vs := [.pointer (some ⟨bb1, 0, none⟩), .slice ay0_482 x_480.length cy0_485]) rfl FLaw05.call29 rfl (lethelaw05_Book_Note_ok (LP := LP) (by exact fun r hr => List.mem_append_right [_, _, _, _, _, _, _, _, _] (hLP r hr)) (by exact LO.grow D24_lifts (fun r hr => hr) hbLists2) (by exact LO.grow D24_lifts (fun r hr => hr) hbWant3) (by exact hf487_0) hr520 h519) ?_
         rintro _ w533 ⟨C533, aqbLists2_523, pqbLists2_524, nqbLists2_525, cqbLists2_526, FqbLists2_527, aqbWant3_528, pqbWant3_529, nqbWant3_530, cqbWant3_531, FqbWant3_532, rfl, h533, hf533_0, hf533_1⟩
         try dsimp only at hf533_0 hf533_1
         obtain rfl := hf533_0.hl
         obtain rfl := hf533_1.hl
         replace h533 := St.pool (N := [_, _, _, _]) (R := [_, _, _, _, _, _, _, _, _]) h533
         obtain ⟨L, hL534⟩ : ∃ X, X = C533 ++ L := ⟨_, rfl⟩
         obtain ⟨LP, hQ534⟩ : ∃ X, X = C533 ++ LP := ⟨_, rfl⟩
         replace hLP : ∀ r ∈ LP, r ∈ L := by rw [hQ534, hL534]; exact frMemGrow hLP
         have h534 := St.re (N := [_, _, _, _, _, _, _, _, _, _, _, _, _]) hL534 h533
         simp only [zca, zna] at h534
         replace hFr : Fr2 _ _ L LP := hFr.step hL534 hQ534
         replace hFj294 : Fr2 _ _ L LP := hFj294.step hL534 hQ534
         obtain ⟨ix535, hv535⟩ : ∃ i, Bx L i aoData6 oData6.length coData6 oData6 := ⟨_, by rw [hL534]; exact hoData6.app _⟩
         have hp535 : ∃ i, Bx LP i aoData6 oData6.length coData6 oData6 := by rw [hQ534]; exact ⟨_, qoData6.choose_spec.app _⟩
         obtain ⟨ix536, hv536⟩ : ∃ i, Bx L i aoB7 oB7.length coB7 oB7 := ⟨_, by rw [hL534]; exact hoB7.app _⟩
         have hp536 : ∃ i, Bx LP i aoB7 oB7.length coB7 oB7 := by rw [hQ534]; exact ⟨_, qoB7.choose_spec.app _⟩
         have ho537 : LO (D24.at LP) [] aqbLists2_523 pqbLists2_524 (x_521).length cqbLists2_526 FqbLists2_527 x_521 := LO.grow D24_lifts (fun r hr => (by rw [hQ534]; exact hr)) hf533_0
         have ho538 : LO (D24.at LP) [] aqbWant3_528 pqbWant3_529 (x_522).length cqbWant3_531 FqbWant3_532 x_522 := LO.grow D24_lifts (fun r hr => (by rw [hQ534]; exact hr)) hf533_1
         refine ⟨_, rfl, .inl ⟨PIn.keep PIn.nil h534, ?_⟩⟩
         refine Plan.nil ?_
         refine blockR_norm ?_
         have h539 := St.pickT (C := [_, _, _, _, _, _, _, _, _, _, _, _, _]) h534 [7, 6, 1, 3, 0, 2, 8, 9, 10, 11, 12] (by decide)
         simp only [pick, zfc, zfn, zgz, zgs, zca, zna] at h539
         obtain ⟨CF540, hx540, hy540⟩ := hFj294
         exact ⟨x_14, x_22, false, x_521, x_522, hR, CF540, L, hx540, LP, hy540, L, rfl, LP, rfl, hLP, ay0_15, py0_16, cy0_18, Fy0_19, ay0_23, py0_24, cy0_26, Fy0_27, x_521.length, aqbLists2_523, pqbLists2_524, cqbLists2_526, FqbLists2_527, x_522.length, aqbWant3_528, pqbWant3_529, cqbWant3_531, FqbWant3_532, (zer (zer (zer (zer zen)))), h539, hf20_0, hf28_0, ho537, ho538⟩
       ·
        replace hR := ifF hR hc489
        refine Plan.cmpV (a := (((x_481 : Nat) : Int) : Int)) (b := (0 : Int)) (p := x_481 = 0) (v := false) rfl rfl rfl rfl icmp_eqN (decide_eq_false hc489) <| Plan.move_bool rfl rfl <| Plan.passed rfl <| Plan.passed rfl <| Plan.passed rfl <| Plan.passed rfl <| Plan.pickFb rfl rfl rfl <| Plan.move_bool rfl rfl ?_
        refine Plan.passed rfl <| Plan.passed rfl <| Plan.passed rfl <| Plan.pickFb rfl rfl rfl <| Plan.assign_bool rfl rfl <| Plan.nil (k488 _ _ ?_); clear k488
        refine W.regionT [(0, true), (1, true), (2, false)] (by kernel_rfl) ?_
        refine Plan.move_ptr rfl rfl <| Plan.move_slice rfl rfl ?_
        have h541 := St.pickT (C := [_, _, _, _, _, _, _, _, _, _, _, _, _, _]) h487 [10, 11, 12, 13, 0, 1, 2, 3, 4, 5, 6, 7, 8, 9] (by decide)
        simp only [pick, zfc, zfn, zgz, zgs, zca, zna] at h541
        obtain ⟨x_543, x_544, hr542, hR⟩ := hR
        refine Plan.call (vs := [.pointer (some ⟨bb1, 0, none⟩), .slice ay0_482 x_480.length cy0_485]) rfl FLaw05.call29 rfl (lethelaw05_Book_Note_ok (LP := LP) (by exact fun r hr => List.mem_append_right [_, _, _, _, _, _, _, _, _] (hLP r hr)) (by exact LO.grow D24_lifts (fun r hr => hr) hbLists2) (by exact LO.grow D24_lifts (fun r hr => hr) hbWant3) (by exact hf487_0) hr542 h541) ?_
        rintro _ w555 ⟨C555, aqbLists2_545, pqbLists2_546, nqbLists2_547, cqbLists2_548, FqbLists2_549, aqbWant3_550, pqbWant3_551, nqbWant3_552, cqbWant3_553, FqbWant3_554, rfl, h555, hf555_0, hf555_1⟩
        try dsimp only at hf555_0 hf555_1
        obtain rfl := hf555_0.hl
        obtain rfl := hf555_1.hl
        replace h555 := St.pool (N := [_, _, _, _]) (R := [_, _, _, _, _, _, _, _, _]) h555
        obtain ⟨L, hL556⟩ : ∃ X, X = C555 ++ L := ⟨_, rfl⟩
        obtain ⟨LP, hQ556⟩ : ∃ X, X = C555 ++ LP := ⟨_, rfl⟩
        replace hLP : ∀ r ∈ LP, r ∈ L := by rw [hQ556, hL556]; exact frMemGrow hLP
        have h556 := St.re (N := [_, _, _, _, _, _, _, _, _, _, _, _, _]) hL556 h555
        simp only [zca, zna] at h556
        replace hFr : Fr2 _ _ L LP := hFr.step hL556 hQ556
        replace hFj294 : Fr2 _ _ L LP := hFj294.step hL556 hQ556
        obtain ⟨ix557, hv557⟩ : ∃ i, Bx L i aoData6 oData6.length coData6 oData6 := ⟨_, by rw [hL556]; exact hoData6.app _⟩
        have hp557 : ∃ i, Bx LP i aoData6 oData6.length coData6 oData6 := by rw [hQ556]; exact ⟨_, qoData6.choose_spec.app _⟩
        obtain ⟨ix558, hv558⟩ : ∃ i, Bx L i aoB7 oB7.length coB7 oB7 := ⟨_, by rw [hL556]; exact hoB7.app _⟩
        have hp558 : ∃ i, Bx LP i aoB7 oB7.length coB7 oB7 := by rw [hQ556]; exact ⟨_, qoB7.choose_spec.app _⟩
        have ho559 : LO (D24.at LP) [] aqbLists2_545 pqbLists2_546 (x_543).length cqbLists2_548 FqbLists2_549 x_543 := LO.grow D24_lifts (fun r hr => (by rw [hQ556]; exact hr)) hf555_0
        have ho560 : LO (D24.at LP) [] aqbWant3_550 pqbWant3_551 (x_544).length cqbWant3_553 FqbWant3_554 x_544 := LO.grow D24_lifts (fun r hr => (by rw [hQ556]; exact hr)) hf555_1
        refine ⟨_, rfl, .inl ⟨PIn.keep PIn.nil h556, ?_⟩⟩
        refine Plan.nil ?_
        refine blockR_norm ?_
        have h561 := St.pickT (C := [_, _, _, _, _, _, _, _, _, _, _, _, _]) h556 [7, 6, 1, 3, 0, 2, 8, 9, 10, 11, 12] (by decide)
        simp only [pick, zfc, zfn, zgz, zgs, zca, zna] at h561
        obtain ⟨CF562, hx562, hy562⟩ := hFj294
        exact ⟨x_14, x_22, false, x_543, x_544, hR, CF562, L, hx562, LP, hy562, L, rfl, LP, rfl, hLP, ay0_15, py0_16, cy0_18, Fy0_19, ay0_23, py0_24, cy0_26, Fy0_27, x_543.length, aqbLists2_545, pqbLists2_546, cqbLists2_548, FqbLists2_549, x_544.length, aqbWant3_550, pqbWant3_551, cqbWant3_553, FqbWant3_554, (zer (zer (zer (zer zen)))), h561, hf20_0, hf28_0, ho559, ho560⟩
     ·
      replace hR := ifF hR hc450
      refine W.condF (congrArg Value.bool (decide_eq_false hc450)) ?_
      refine W.skip ?_
      refine blockR_norm ?_
      have h563 := St.pickT (C := [_, _, _, _, _, _, _, _, _, _, _]) h30 [1, 0, 8, 10, 7, 9, 2, 3, 4, 5, 6] (by decide)
      simp only [pick, zfc, zfn, zgz, zgs, zca, zna] at h563
      obtain ⟨CF564, hx564, hy564⟩ := hFj294
      exact ⟨x_14, x_22, true, bLists2, bWant3, hR, CF564, L, hx564, LP, hy564, L, rfl, LP, rfl, hLP, ay0_15, py0_16, cy0_18, Fy0_19, ay0_23, py0_24, cy0_26, Fy0_27, bLists2.length, abLists2, pbLists2, cbLists2, FbLists2, bWant3.length, abWant3, pbWant3, cbWant3, FbWant3, (zer (zer (zer (zer zen)))), h563, hf20_0, hf28_0, hbLists2, hbWant3⟩
 ·
  rintro ev565 wl565 ⟨y_x_289, y_y290, y_ok291, y_m292, y_m293, ⟨hy565_0, hy565_1, hy565_2, hy565_3, hy565_4, hy565_5⟩, CG565, LG565, hlg565, QG565, hqg565, L, hLe565, LP, hQe565, hLPn565, ax_289, px_289, cx_289, Fx_289, ay290, py290, cy290, Fy290, n_m292, am292, pm292, cm292, Fm292, n_m293, am293, pm293, cm293, Fm293, he565, h565, hx_289, hy290, hm292, hm293⟩
  subst hy565_1
  subst hy565_2
  subst hy565_3
  subst hy565_4
  subst hy565_5
  obtain rfl : List.length (α := (List Byte)) m292 = n_m292 := hm292.hl
  obtain rfl : List.length (α := (List Byte)) m293 = n_m293 := hm293.hl
  obtain ⟨ev565, rfl⟩ := he565.open
  replace hR := hR0294 hy565_0
  have hL565 := hLe565.trans hlg565
  have hQ565 := hQe565.trans hqg565
  replace hLP : ∀ r ∈ LP, r ∈ L := by rw [hQ565, hL565]; exact frMemGrow hLP
  replace hFr : Fr2 _ _ L LP := hFr.step hL565 hQ565
  replace hFj294 : Fr2 _ _ L LP := hFj294.step hL565 hQ565
  obtain ⟨ix567, hv567⟩ : ∃ i, Bx L i aoData6 oData6.length coData6 oData6 := ⟨_, by rw [hL565]; exact hoData6.app _⟩
  have hp567 : ∃ i, Bx LP i aoData6 oData6.length coData6 oData6 := by rw [hQ565]; exact ⟨_, qoData6.choose_spec.app _⟩
  obtain ⟨ix568, hv568⟩ : ∃ i, Bx L i aoB7 oB7.length coB7 oB7 := ⟨_, by rw [hL565]; exact hoB7.app _⟩
  have hp568 : ∃ i, Bx LP i aoB7 oB7.length coB7 oB7 := by rw [hQ565]; exact ⟨_, qoB7.choose_spec.app _⟩
  refine k36 _ _ ?_; clear k36
  refine W.seq_k fun _ k569 => W.regionT [(0, true), (1, true), (2, true), (3, true), (4, true), (5, false), (6, true), (7, true), (8, true), (9, true), (10, true), (11, false), (12, true), (13, true)] (by kernel_rfl) ?_
  by_cases hc570 : ok291 = true
  ·
   replace hR := ifT hR hc570
   refine Plan.move_bool (b := true) rfl (congrArg Value.bool hc570) <| Plan.move_bool rfl rfl <| Plan.move_slice rfl rfl <| Plan.fieldAddr 33 FLaw05.fld45_2 rfl rfl <| Plan.load0 h565 8 rfl rfl rfl (by omega) FLaw05.sc24 ?_
   obtain ⟨x_572, hr571, hR⟩ := hR
   refine Plan.call (vs := [.slice ax_289 x_14.length cx_289, .slice aoData6 oData6.length coData6]) rfl FLaw05.call32 rfl (lethelaw05_Kept_ok (by exact (hx_289.bx 0 rfl)) (hv567.app [_, _, _, _, _, _, _, _, _, _, _]) hr571 h565) ?_
   rintro _ w573 ⟨rfl, h573⟩
   refine ⟨_, rfl, .inr ⟨rfl, ?_⟩⟩
   by_cases hc574 : x_572 = true
   ·
    replace hR := ifT hR hc574
    obtain rfl : x_572 = true := hc574
    refine Plan.pickTb rfl rfl rfl <| Plan.move_bool rfl rfl <| Plan.move_slice rfl rfl <| Plan.fieldAddr 34 FLaw05.fld45_3 rfl rfl <| Plan.load0 h573 9 rfl rfl rfl (by omega) FLaw05.sc24 ?_
    obtain ⟨x_576, hr575, hR⟩ := hR
    refine Plan.call (vs := [.slice ay290 x_22.length cy290, .slice aoB7 oB7.length coB7]) rfl FLaw05.call32 rfl (lethelaw05_Kept_ok (by exact (hy290.bx 1 rfl)) (hv568.app [_, _, _, _, _, _, _, _, _, _, _]) hr575 h573) ?_
    rintro _ w577 ⟨rfl, h577⟩
    refine ⟨_, rfl, .inr ⟨rfl, ?_⟩⟩
    refine Plan.pickTb rfl rfl rfl <| Plan.assign_bool rfl rfl <| Plan.nil (k569 _ _ ?_); clear k569
    refine W.ret (finR_ret ?_)
    have h578 := St.pickT (C := [_, _, _, _, _, _, _, _, _, _, _]) h577 [4, 2, 5, 3] (by decide)
    simp only [pick, zfc, zfn, zgz, zgs, zca, zna] at h578
    subst r
    refine RetOk.mk (.tmp_bool rfl .nil) ?_
    obtain ⟨CF, hx1, hx2⟩ := hFr
    subst hx1
    subst hx2
    exact ⟨_, am292, pm292, m292.length, cm292, Fm292, am293, pm293, m293.length, cm293, Fm293, rfl, h578, hm292, hm293⟩
   ·
    replace hR := ifF hR hc574
    obtain rfl : x_572 = false := Bool.eq_false_iff.2 hc574
    refine Plan.pickTb rfl rfl rfl <| Plan.move_bool rfl rfl <| Plan.passed rfl <| Plan.passed rfl <| Plan.passed rfl <| Plan.passed rfl <| Plan.pickFb rfl rfl rfl <| Plan.assign_bool rfl rfl ?_
    refine Plan.nil (k569 _ _ ?_); clear k569
    refine W.ret (finR_ret ?_)
    have h579 := St.pickT (C := [_, _, _, _, _, _, _, _, _, _, _]) h573 [4, 2, 5, 3] (by decide)
    simp only [pick, zfc, zfn, zgz, zgs, zca, zna] at h579
    subst r
    refine RetOk.mk (.tmp_bool rfl .nil) ?_
    obtain ⟨CF, hx1, hx2⟩ := hFr
    subst hx1
    subst hx2
    exact ⟨_, am292, pm292, m292.length, cm292, Fm292, am293, pm293, m293.length, cm293, Fm293, rfl, h579, hm292, hm293⟩
  ·
   replace hR := ifF hR hc570
   refine Plan.move_bool (b := false) rfl (congrArg Value.bool (Bool.eq_false_iff.2 hc570)) <| Plan.move_bool rfl rfl <| Plan.passed rfl <| Plan.passed rfl <| Plan.passed rfl <| Plan.passed rfl <| Plan.pickFb rfl rfl rfl <| Plan.move_bool rfl rfl ?_
   refine Plan.passed rfl <| Plan.passed rfl <| Plan.passed rfl <| Plan.passed rfl <| Plan.pickFb rfl rfl rfl <| Plan.assign_bool rfl rfl <| Plan.nil (k569 _ _ ?_); clear k569
   refine W.ret (finR_ret ?_)
   have h580 := St.pickT (C := [_, _, _, _, _, _, _, _, _, _, _]) h565 [4, 2, 5, 3] (by decide)
   simp only [pick, zfc, zfn, zgz, zgs, zca, zna] at h580
   subst r
   refine RetOk.mk (.tmp_bool rfl .nil) ?_
   obtain ⟨CF, hx1, hx2⟩ := hFr
   subst hx1
   subst hx2
   exact ⟨_, am292, pm292, m292.length, cm292, Fm292, am293, pm293, m293.length, cm293, Fm293, rfl, h580, hm292, hm293⟩
theorem lethelaw05_Book_Holds_ok {B : Nat} {w0 w : World} {L : List Rg} {bb1 : Nat} {bLists2 : List (List Byte)} {abLists2 : Option Addr} {nbLists2 cbLists2 ibLists2 : Nat} (hbLists2 : LV (D24.at L) L ibLists2 abLists2 nbLists2 cbLists2 bLists2) {bWant3 : List (List Byte)} {abWant3 : Option Addr} {nbWant3 cbWant3 ibWant3 : Nat} (hbWant3 : LV (D24.at L) L ibWant3 abWant3 nbWant3 cbWant3 bWant3) {r : Bool} (hR : lethelaw05_Book_Holds bLists2 bWant3 r) (HST : St B w0 (⟨some bb1, 0, 1, fun _ => .slice abLists2 nbLists2 cbLists2, true⟩ :: ⟨some bb1, 1, 1, fun _ => .slice abWant3 nbWant3 cbWant3, true⟩ :: L) w) :
  Calls Tryd.prog 17 #[.pointer (some ⟨bb1, 0, none⟩)] w fun e w' => e = .returned (.bool r) ∧ St B w0 (⟨some bb1, 0, 1, fun _ => .slice abLists2 nbLists2 cbLists2, true⟩ :: ⟨some bb1, 1, 1, fun _ => .slice abWant3 nbWant3 cbWant3, true⟩ :: L) w' := by
 refine W.enter 29 Tryd.func17 rfl rfl rfl ?_
 unfold lethelaw05_Book_Holds at hR
 have ebLists2 := hbLists2.hl; subst ebLists2
 have ebWant3 := hbWant3.hl; subst ebWant3
 refine W.seq_k fun _ k4 => W.regionT [(0, true)] (by kernel_rfl) ?_
 refine Plan.assign_bool rfl rfl <| Plan.nil (k4 _ _ ?_); clear k4
 refine W.seq_k fun _ k5 => W.seq_k fun _ k6 => ?_
 refine W.regionT [(0, true)] (by kernel_rfl) ?_
 refine Plan.assign_int rfl rfl <| Plan.nil (k6 _ _ ?_); clear k6
 obtain ⟨x40, hI40, hR040⟩ := hR
 refine W.cutN (fun e w => x40 = some () ∧ EnvHas e [] ∧ St B w0 (⟨some bb1, 0, 1, fun _ => .slice abLists2 bLists2.length cbLists2, true⟩ :: ⟨some bb1, 1, 1, fun _ => .slice abWant3 bWant3.length cbWant3, true⟩ :: L) w) ?_ ?_
 ·
  refine W.block ?_
  refine W.iter hI40 (fun (s40 : Nat) e w => EnvHas e [(0, .pointer (some ⟨bb1, 0, none⟩)), (3, VN s40)] ∧ St B w0 (⟨some bb1, 0, 1, fun _ => .slice abLists2 bLists2.length cbLists2, true⟩ :: ⟨some bb1, 1, 1, fun _ => .slice abWant3 bWant3.length cbWant3, true⟩ :: L) w) ⟨(zer (zer zen)), HST⟩ ?_
  rintro i_39 o40 hR hx40 ev41 wl41 ⟨he41, h41⟩
  obtain ⟨ev41, rfl⟩ := he41.open
  unfold lethelaw05_Book_Holds_l0 at hR
  refine W.seq_k fun _ k42 => W.seq_k fun _ k43 => ?_
  refine W.regionT [(0, true), (1, true), (2, true), (3, true), (4, true), (5, true), (6, true)] (by kernel_rfl) ?_
  refine Plan.move_int rfl rfl <| Plan.move_ptr rfl rfl <| Plan.nilCheck rfl rfl <| Plan.fieldAddr0 FLaw05.fld42_0 rfl rfl <| Plan.load0 h41 0 rfl rfl rfl (by omega) FLaw05.sc40 <| Plan.len FLaw05.isl40 rfl rfl <| Plan.cmpP (a := (((i_39 : Nat) : Int) : Int)) (b := (((bLists2.length : Nat) : Int) : Int)) (p := i_39 < bLists2.length) rfl rfl rfl rfl icmp_ltN <| Plan.nil (k43 _ _ ?_); clear k43
  by_cases hc44 : i_39 < bLists2.length
  ·
   replace hR := ifT hR hc44
   refine W.condT (congrArg Value.bool (decide_eq_true hc44)) ?_
   refine W.skip ?_
   refine k42 _ _ ?_; clear k42
   refine W.seq_k fun _ k45 => ?_
   refine W.block ?_
   refine W.seq_k fun _ k46 => ?_
   refine W.regionD FLaw05.mixed [(0, true), (1, true), (2, true), (3, true), (4, true), (5, true), (6, true), (7, true), (8, true), (9, true), (10, true), (11, true), (12, true), (13, true), (14, false), (15, true)] (by kernel_rfl) ?_
   have h47 := h41.drew
   refine Plan.move_ptr rfl rfl <| Plan.nilCheck rfl rfl <| Plan.fieldAddr0 FLaw05.fld42_0 rfl rfl <| Plan.load0 h47 0 rfl rfl rfl (by omega) FLaw05.sc40 <| Plan.move_int rfl rfl ?_
   obtain ⟨hc48, hR⟩ := hR
   refine Plan.idxLVS (D := (D24.at L)) (j := i_39) h47 (hbLists2.app [_, _]) FLaw05.sl40 rfl rfl rfl hc48 ?_
   refine Plan.loadLV1 (D := (D24.at L)) (X := bLists2) (j := i_39) h47 ([] : List Byte) (fun b _ => .slice b.1 b.2.1 b.2.2) (hbLists2.app [_, _]) rfl rfl hc48 rfl (fun _ _ => rfl) FLaw05.sc24 fun b49 r49 hs49 hr49 => ?_
   obtain ⟨i49_0, hv49_0⟩ := hs49
   obtain ⟨ab49, nb49, cb49⟩ := b49
   obtain rfl : ((bLists2.getD i_39 ([] : List Byte))).length = nb49 := hv49_0.hl
   refine Plan.move_ptr rfl rfl <| Plan.nilCheck rfl rfl <| Plan.fieldAddr 1 FLaw05.fld42_1 rfl rfl <| Plan.load0 h47 1 rfl rfl rfl (by omega) FLaw05.sc40 <| Plan.move_int rfl rfl ?_
   obtain ⟨hc50, hR⟩ := hR
   refine Plan.idxLVS (D := (D24.at L)) (j := i_39) h47 (hbWant3.app [_, _]) FLaw05.sl40 rfl rfl rfl hc50 ?_
   refine Plan.loadLV1 (D := (D24.at L)) (X := bWant3) (j := i_39) h47 ([] : List Byte) (fun b _ => .slice b.1 b.2.1 b.2.2) (hbWant3.app [_, _]) rfl rfl hc50 rfl (fun _ _ => rfl) FLaw05.sc24 fun b51 r51 hs51 hr51 => ?_
   obtain ⟨i51_0, hv51_0⟩ := hs51
   obtain ⟨ab51, nb51, cb51⟩ := b51
   obtain rfl : ((bWant3.getD i_39 ([] : List Byte))).length = nb51 := hv51_0.hl
   obtain ⟨x_53, hr52, hR⟩ := hR
   refine Plan.call (vs := [.slice ab49 (((bLists2.getD i_39 ([] : List Byte))).length) cb49, .slice ab51 (((bWant3.getD i_39 ([] : List Byte))).length) cb51]) rfl FLaw05.call14 rfl (lethelaw05_Eq_ok (hv49_0.app [_, _]) (hv51_0.app [_, _]) hr52 h47) ?_
   rintro _ w54 ⟨rfl, h54⟩
   refine ⟨_, rfl, .inl ⟨PIn.keep (PIn.cons (ibWant3 + 2) hr51 (PIn.cons 1 rfl (PIn.cons (ibLists2 + 2) hr49 (PIn.cons 0 rfl PIn.nil)))) h54, ?_⟩⟩
   refine Plan.not rfl rfl <| Plan.nil (k46 _ _ ?_); clear k46
   by_cases hc55 : x_53 = true
   ·
    replace hR := ifT hR hc55
    refine W.condF (congrArg Value.bool (congrArg Bool.not hc55)) ?_
    refine W.skip ?_
    refine blockR_norm ?_
    refine k45 _ _ ?_; clear k45
    refine W.regionT [(0, true), (1, true), (2, true)] (by kernel_rfl) ?_
    refine Plan.move_int rfl rfl ?_
    obtain ⟨hc56, hR⟩ := hR
    refine Plan.addN (a := i_39) (b := 1) rfl rfl rfl (by omega) <| Plan.assign_int rfl rfl <| Plan.nil ?_
    exact iterR_norm ⟨_, hR, (zer (zer zen)), h54⟩
   ·
    replace hR := ifF hR hc55
    refine W.condT (congrArg Value.bool (congrArg Bool.not (Bool.eq_false_iff.2 hc55))) ?_
    refine W.seq_k fun _ k57 => W.regionT [(0, true)] (by kernel_rfl) ?_
    refine Plan.assign_bool rfl rfl <| Plan.nil (k57 _ _ ?_); clear k57
    refine W.ret (blockR_ret (thenR_ret (iterR_ret (blockR_ret (thenR_ret (thenR_ret (finR_ret ?_)))))))
    replace hR := hR.2
    subst r
    refine RetOk.mk (.tmp_bool rfl .nil) ?_
    exact ⟨rfl, h54⟩
  ·
   replace hR := ifF hR hc44
   refine W.condF (congrArg Value.bool (decide_eq_false hc44)) ?_
   refine W.exit (thenR_exit (iterR_exit (blockR_here ?_)))
   exact ⟨(hx40 _ hR).symm, zen, h41⟩
 ·
  rintro ev58 wl58 ⟨hy58, he58, h58⟩
  obtain ⟨ev58, rfl⟩ := he58.open
  replace hR := hR040  hy58
  refine k5 _ _ ?_; clear k5
  refine W.seq_k fun _ k59 => W.regionT [(0, true)] (by kernel_rfl) ?_
  refine Plan.assign_bool rfl rfl <| Plan.nil (k59 _ _ ?_); clear k59
  refine W.ret (finR_ret ?_)
  subst r
  refine RetOk.mk (.tmp_bool rfl .nil) ?_
  exact ⟨rfl, h58⟩
end Go.Proofs.YthjkmhdgenmnoaaDoor
