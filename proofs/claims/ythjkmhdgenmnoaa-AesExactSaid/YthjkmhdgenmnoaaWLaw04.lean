/-
 WALKS of the package's functions, printed by this session's own program (auto.py).
-/
import Derived.Test.YthjkmhdgenmnoaaProg
import Derived.Test.YthjkmhdgenmnoaaEc
import Derived.Test.YthjkmhdgenmnoaaRLaw04
import Derived.Test.YthjkmhdgenmnoaaEls
namespace Go.Proofs.Ythjkmhdgenmnoaa
set_option linter.unusedSimpArgs false
set_option linter.unusedVariables false
set_option linter.unusedSectionVars false
set_option maxRecDepth 8000
set_option maxHeartbeats 1000000
open Go Go.LW
theorem FLaw04.el28 : elD Try.prog 28 = some (1, 1, some (VU .u8 0#8)) := by kernel_rfl
theorem FLaw04.sc28 : scalarT Try.prog 28 = true := by kernel_rfl
theorem FLaw04.sl28 : slB Try.prog 28 1 = true := by kernel_rfl
theorem FLaw04.zv5 : (Try.prog.info? 5).bind (·.zero) = some (VU .u8 0#8) := by kernel_rfl
theorem FLaw04.slu28 : Try.prog.underlying 28 = some (.slice 5) := by kernel_rfl
theorem FLaw04.sz5 : szT Try.prog 5 1 = true := by kernel_rfl
theorem FLaw04.call27 : callB Try.prog 27 = true := by kernel_rfl
theorem FLaw04.isl28 : ∃ el, Try.prog.underlying 28 = some (.slice el) := ⟨5, by kernel_rfl⟩
theorem FLaw04.mixed : Try.prog.follows .mixedOrders = true := by kernel_rfl
theorem FLaw04.u5 : Try.prog.underlying 5 = some (.int .u8) := by kernel_rfl
theorem FLaw04.some3 : (Try.prog.underlying 3).isSome = true := by kernel_rfl
theorem FLaw04.sc5 : scalarT Try.prog 5 = true := by kernel_rfl
theorem FLaw04.str9 : Try.prog.underlying 9 = some .string := by kernel_rfl
theorem FLaw04.call14 : callB Try.prog 14 = true := by kernel_rfl
theorem FLaw04.fld51_0 : fieldB Try.prog 51 0 0 = true := by kernel_rfl
theorem FLaw04.sc49 : scalarT Try.prog 49 = true := by kernel_rfl
theorem FLaw04.isl49 : ∃ el, Try.prog.underlying 49 = some (.slice el) := ⟨28, by kernel_rfl⟩
theorem FLaw04.zv28 : (Try.prog.info? 28).bind (·.zero) = some (.slice none 0 0) := by kernel_rfl
theorem FLaw04.slu49 : Try.prog.underlying 49 = some (.slice 28) := by kernel_rfl
theorem FLaw04.sz28 : szT Try.prog 28 1 = true := by kernel_rfl
theorem FLaw04.el49 : elD Try.prog 49 = some (1, 24, some (.slice none 0 0)) := by kernel_rfl
theorem FLaw04.sz49 : szT Try.prog 49 1 = true := by kernel_rfl
theorem FLaw04.fld51_1 : fieldB Try.prog 51 1 1 = true := by kernel_rfl
theorem FLaw04.sl49 : slB Try.prog 49 1 = true := by kernel_rfl
theorem lethelaw04_Room_ok {B : Nat} {w0 w : World} {L : List Rg} {b1 : List Byte} {ab1 : Option Addr} {nb1 cb1 ib1 : Nat} (hb1 : Bx L ib1 ab1 nb1 cb1 b1) {r : (List Byte)} (hR : lethelaw04_Room b1 r) (HST : St B w0 (L) w) :
  Calls Try.prog 27 #[.slice ab1 nb1 cb1] w fun e w' => ∃ ay0 : Option Addr, ∃ py0 : Option Nat, ∃ ny0 : Nat, ∃ cy0 : Nat, ∃ Fy0 : Nat → Byte, e = .returned (.slice ay0 ny0 cy0) ∧ St B w0 (⟨py0, 0, cy0, fun q => VU .u8 (Fy0 q), true⟩ :: L) w' ∧ Ow ay0 py0 ny0 cy0 Fy0 r := by
 refine W.enter 7 Try.func27 rfl rfl rfl ?_
 unfold lethelaw04_Room at hR
 have eb1 := hb1.hl; subst eb1
 refine W.seq_k fun _ k2 => W.regionT [(0, true)] (by kernel_rfl) ?_
 refine Plan.assign_slice rfl rfl <| Plan.nil (k2 _ _ ?_); clear k2
 refine W.seq_k fun _ k3 => W.regionT [(0, true), (1, false), (2, false), (3, false), (4, true)] (by kernel_rfl) ?_
 refine Plan.move_slice rfl rfl ?_
 have h4 := HST.nilR
 obtain ⟨hc6, hR⟩ := hR
 refine Plan.appendO (X := ([] : List Byte)) (Y := b1) h4 0 Ow.nil FLaw04.el28 FLaw04.sl28 rfl rfl rfl rfl (hb1.app [_]) hc6 (fun _ => EffO.keep PIn.nil) fun a5 pb5 cap5 F5 w5 ho5 h5 => ?_
 simp only [zca, zna, zsz, zss] at h5
 refine Plan.buildSlice h5 (ps := [(3, fun q => VU .u8 (lit ([209#8, 210#8, 211#8] : List Byte) q))]) FLaw04.slu28 FLaw04.sz5 FLaw04.zv5 (by decide) (by decide) rfl rfl (by kernel_rfl) (EffO.keep PIn.nil) fun b7 w7 hb7 h7 => ?_
 simp only [rngs, List.cons_append, List.nil_append] at h7
 have ho7 : Ow (some ⟨b7, 0, none⟩) (some b7) ([209#8, 210#8, 211#8] : List Byte).length 3 (lit ([209#8, 210#8, 211#8] : List Byte)) ([209#8, 210#8, 211#8] : List Byte) := ⟨.inr ⟨b7, rfl, rfl⟩, Nat.le_refl _, rfl, fun q _ => rfl⟩
 obtain ⟨hc9, hR⟩ := hR
 refine Plan.appendO (X := (([] : List Byte) ++ b1)) (Y := ([209#8, 210#8, 211#8] : List Byte)) h7 1 ho5 FLaw04.el28 FLaw04.sl28 rfl rfl rfl rfl (ho7.bx 0 rfl) hc9 (fun _ => EffO.keep PIn.nil) fun a8 pb8 cap8 F8 w8 ho8 h8 => ?_
 simp only [zca, zna, zsz, zss] at h8
 refine Plan.assign_slice rfl rfl <| Plan.nil (k3 _ _ ?_); clear k3
 refine W.ret (finR_ret ?_)
 have h10 := St.pickT (C := [_, _]) h8 [1] (by decide)
 simp only [pick, zfc, zfn, zgz, zgs, zca, zna] at h10
 subst r
 refine RetOk.mk (.tmp_slice rfl .nil) ?_
 exact ⟨a8, pb8, ((([] : List Byte) ++ b1) ++ ([209#8, 210#8, 211#8] : List Byte)).length, cap8, F8, rfl, h10, ho8⟩
theorem lethelaw04_Eq_ok {B : Nat} {w0 w : World} {L : List Rg} {a1 : List Byte} {aa1 : Option Addr} {na1 ca1 ia1 : Nat} (ha1 : Bx L ia1 aa1 na1 ca1 a1) {b2 : List Byte} {ab2 : Option Addr} {nb2 cb2 ib2 : Nat} (hb2 : Bx L ib2 ab2 nb2 cb2 b2) {r : Bool} (hR : lethelaw04_Eq a1 b2 r) (HST : St B w0 (L) w) :
  Calls Try.prog 14 #[.slice aa1 na1 ca1, .slice ab2 nb2 cb2] w fun e w' => e = .returned (.bool r) ∧ St B w0 (L) w' := by
 refine W.enter 10 Try.func14 rfl rfl rfl ?_
 unfold lethelaw04_Eq at hR
 have ea1 := ha1.hl; subst ea1
 have eb2 := hb2.hl; subst eb2
 refine W.seq_k fun _ k3 => W.regionT [(0, true)] (by kernel_rfl) ?_
 refine Plan.assign_bool rfl rfl <| Plan.nil (k3 _ _ ?_); clear k3
 refine W.seq_k fun _ k4 => W.regionT [(0, true), (1, true), (2, true), (3, true), (4, true), (5, true)] (by kernel_rfl) ?_
 refine Plan.move_slice rfl rfl ?_
 refine Plan.toStrV HST ha1 FLaw04.slu28 FLaw04.u5 FLaw04.str9 rfl rfl fun r5 hr5 => ?_
 replace hr5 := or_un [] hr5
 refine Plan.move_slice rfl rfl ?_
 refine Plan.toStrV HST hb2 FLaw04.slu28 FLaw04.u5 FLaw04.str9 rfl rfl fun r6 hr6 => ?_
 replace hr6 := or_un [] hr6
 refine Plan.eqStrV (v := decide (a1 = b2)) rfl rfl rfl rfl <| Plan.assign_bool rfl rfl <| Plan.nil (k4 _ _ ?_); clear k4
 refine W.ret (finR_ret ?_)
 subst r
 refine RetOk.mk (.tmp_bool rfl .nil) ?_
 exact ⟨rfl, HST⟩
theorem lethelaw04_Kept_ok {B : Nat} {w0 w : World} {L : List Rg} {room1 : List Byte} {aroom1 : Option Addr} {nroom1 croom1 iroom1 : Nat} (hroom1 : Bx L iroom1 aroom1 nroom1 croom1 room1) {b2 : List Byte} {ab2 : Option Addr} {nb2 cb2 ib2 : Nat} (hb2 : Bx L ib2 ab2 nb2 cb2 b2) {r : Bool} (hR : lethelaw04_Kept room1 b2 r) (HST : St B w0 (L) w) :
  Calls Try.prog 33 #[.slice aroom1 nroom1 croom1, .slice ab2 nb2 cb2] w fun e w' => e = .returned (.bool r) ∧ St B w0 (L) w' := by
 refine W.enter 9 Try.func33 rfl rfl rfl ?_
 unfold lethelaw04_Kept at hR
 have eroom1 := hroom1.hl; subst eroom1
 have eb2 := hb2.hl; subst eb2
 refine W.seq_k fun _ k3 => W.regionT [(0, true)] (by kernel_rfl) ?_
 refine Plan.assign_bool rfl rfl <| Plan.nil (k3 _ _ ?_); clear k3
 refine W.seq_k fun _ k4 => W.regionT [(0, true), (1, true), (2, false), (3, false), (4, true)] (by kernel_rfl) ?_
 refine Plan.move_slice rfl rfl <| Plan.move_slice rfl rfl ?_
 obtain ⟨x_6, hr5, hR⟩ := hR
 refine Plan.call (vs := [.slice ab2 b2.length cb2]) rfl FLaw04.call27 rfl (lethelaw04_Room_ok hb2 hr5 HST) ?_
 rintro _ w12 ⟨ay0_7, py0_8, ny0_9, cy0_10, Fy0_11, rfl, h12, hf12_0⟩
 obtain rfl := hf12_0.hl
 refine ⟨_, rfl, .inl ⟨PIn.keep PIn.nil h12, ?_⟩⟩
 obtain ⟨x_14, hr13, hR⟩ := hR
 refine Plan.call (vs := [.slice aroom1 room1.length croom1, .slice ay0_7 x_6.length cy0_10]) rfl FLaw04.call14 rfl (lethelaw04_Eq_ok (hroom1.app [_]) (by exact (hf12_0.bx 0 rfl)) hr13 h12) ?_
 rintro _ w15 ⟨rfl, h15⟩
 refine ⟨_, rfl, .inl ⟨PIn.keep PIn.nil h15, ?_⟩⟩
 refine Plan.assign_bool rfl rfl <| Plan.nil (k4 _ _ ?_); clear k4
 refine W.ret (finR_ret ?_)
 have h16 := St.pickT (C := [_]) h15 [] (by decide)
 simp only [pick, zfc, zfn, zgz, zgs, zca, zna] at h16
 subst r
 refine RetOk.mk (.tmp_bool rfl .nil) ?_
 exact ⟨rfl, h16⟩
theorem lethelaw04_Book_Note_at4_ok {B : Nat} {w0 w : World} {L : List Rg} {LP : List Rg} (hLP : ∀ r ∈ LP, r ∈ L) {bb1 : Nat} {bLists2 : List (List Byte)} {abLists2 : Option Addr} {pbLists2 : Option Nat} {nbLists2 cbLists2 : Nat} {FbLists2 : Nat → Value} (hbLists2 : LO (D28.at LP) [] abLists2 pbLists2 nbLists2 cbLists2 FbLists2 bLists2) {bWant3 : List (List Byte)} {abWant3 : Option Addr} {pbWant3 : Option Nat} {nbWant3 cbWant3 : Nat} {FbWant3 : Nat → Value} (hbWant3 : LO (D28.at LP) [] abWant3 pbWant3 nbWant3 cbWant3 FbWant3 bWant3) {l_4 : List Byte} {al_4 : Option Addr} {pl_4 : Option Nat} {nl_4 cl_4 : Nat} {Fl_4 : Nat → Byte} (hl_4 : Ow al_4 pl_4 nl_4 cl_4 Fl_4 l_4) {r : ((List (List Byte)) × (List (List Byte)))} (hR : lethelaw04_Book_Note_at4 bLists2 bWant3 l_4 r) (HST : St B w0 (⟨some bb1, 4, 1, fun _ => .slice abLists2 nbLists2 cbLists2, true⟩ :: ⟨pbLists2, 0, cbLists2 * 1, FbLists2, true⟩ :: ⟨some bb1, 5, 1, fun _ => .slice abWant3 nbWant3 cbWant3, true⟩ :: ⟨pbWant3, 0, cbWant3 * 1, FbWant3, true⟩ :: ⟨pl_4, 0, cl_4, fun q => VU .u8 (Fl_4 q), true⟩ :: L) w) :
  Calls Try.prog 37 #[.pointer (some ⟨bb1, 4, none⟩), .slice al_4 nl_4 cl_4] w fun e w' => ∃ C : List Rg, ∃ aqbLists2 : Option Addr, ∃ pqbLists2 : Option Nat, ∃ nqbLists2 : Nat, ∃ cqbLists2 : Nat, ∃ FqbLists2 : Nat → Value, ∃ aqbWant3 : Option Addr, ∃ pqbWant3 : Option Nat, ∃ nqbWant3 : Nat, ∃ cqbWant3 : Nat, ∃ FqbWant3 : Nat → Value, e = .returned (.tuple #[]) ∧ St B w0 (⟨some bb1, 4, 1, fun _ => .slice aqbLists2 nqbLists2 cqbLists2, true⟩ :: ⟨pqbLists2, 0, cqbLists2 * 1, FqbLists2, true⟩ :: ⟨some bb1, 5, 1, fun _ => .slice aqbWant3 nqbWant3 cqbWant3, true⟩ :: ⟨pqbWant3, 0, cqbWant3 * 1, FqbWant3, true⟩ :: (C ++ L)) w' ∧ LO (D28.at (C ++ LP)) [] aqbLists2 pqbLists2 nqbLists2 cqbLists2 FqbLists2 r.1 ∧ LO (D28.at (C ++ LP)) [] aqbWant3 pqbWant3 nqbWant3 cqbWant3 FqbWant3 r.2 := by
 refine W.enter 71 Try.func37 rfl rfl rfl ?_
 unfold lethelaw04_Book_Note_at4 at hR
 have hFr : Fr2 L LP L LP := Fr2.refl _ _
 have ebLists2 := hbLists2.hl; subst ebLists2
 have ebWant3 := hbWant3.hl; subst ebWant3
 have el_4 := hl_4.hl; subst el_4
 refine W.seq_k fun _ k5 => W.regionT [(0, true), (1, true), (2, true), (3, true), (4, true), (5, true), (6, true), (7, true)] (by kernel_rfl) ?_
 refine Plan.move_ptr rfl rfl <| Plan.nilCheck rfl rfl <| Plan.fieldAddr0 FLaw04.fld51_0 rfl rfl <| Plan.load0 HST 0 rfl rfl rfl (by omega) FLaw04.sc49 <| Plan.len FLaw04.isl49 rfl rfl ?_
 obtain ⟨hc6, hR⟩ := hR
 refine Plan.mulN (a := bLists2.length) (b := 29) rfl rfl rfl (by omega) ?_
 obtain ⟨hc7, hR⟩ := hR
 refine Plan.addN (a := (bLists2.length * 29)) (b := 7) rfl rfl rfl (by omega) <| Plan.assign_int rfl rfl <| Plan.nil (k5 _ _ ?_); clear k5
 refine W.seq_k fun _ k8 => W.regionT [(0, true)] (by kernel_rfl) ?_
 refine Plan.assign_slice rfl rfl <| Plan.nil (k8 _ _ ?_); clear k8
 refine W.seq_k fun _ k9 => W.seq_k fun _ k10 => ?_
 refine W.regionT [(0, true)] (by kernel_rfl) ?_
 refine Plan.assign_int rfl rfl <| Plan.nil (k10 _ _ ?_); clear k10
 have h51 := HST.nilR
 obtain ⟨l_48, want49, hI50, hR050⟩ := hR
 refine W.cutN (fun e w => ∃ y_l_48 : List Byte, ∃ y_want49 : List Byte, (l_48, want49) = (y_l_48, y_want49) ∧ ∃ al_48 : Option Addr, ∃ pl_48 : Option Nat, ∃ cl_48 : Nat, ∃ Fl_48 : Nat → Byte, ∃ awant49 : Option Addr, ∃ pwant49 : Option Nat, ∃ cwant49 : Nat, ∃ Fwant49 : Nat → Byte, EnvHas e [(0, .pointer (some ⟨bb1, 4, none⟩)), (1, .slice al_48 l_4.length cl_48), (4, VN ((bLists2.length * 29) + 7)), (5, .slice awant49 y_want49.length cwant49)] ∧ St B w0 (⟨pl_48, 0, cl_48, fun q => VU .u8 (Fl_48 q), true⟩ :: ⟨pwant49, 0, cwant49, fun q => VU .u8 (Fwant49 q), true⟩ :: ⟨some bb1, 4, 1, fun _ => .slice abLists2 bLists2.length cbLists2, true⟩ :: ⟨pbLists2, 0, cbLists2 * 1, FbLists2, true⟩ :: ⟨some bb1, 5, 1, fun _ => .slice abWant3 bWant3.length cbWant3, true⟩ :: ⟨pbWant3, 0, cbWant3 * 1, FbWant3, true⟩ :: L) w ∧ Ow al_48 pl_48 l_4.length cl_48 Fl_48 y_l_48 ∧ Ow awant49 pwant49 y_want49.length cwant49 Fwant49 y_want49) ?_ ?_
 ·
  refine W.block ?_
  have h52 := St.pickT (C := [_, _, _, _, _, _]) h51 [5, 0, 1, 2, 3, 4] (by decide)
  simp only [pick, zfc, zfn, zgz, zgs, zca, zna] at h52
  refine W.iter hI50 (fun (s50 : ((List Byte) × (List Byte) × Nat)) e w => ∃ al_44 : Option Addr, ∃ pl_44 : Option Nat, ∃ cl_44 : Nat, ∃ Fl_44 : Nat → Byte, ∃ awant45 : Option Addr, ∃ pwant45 : Option Nat, ∃ cwant45 : Nat, ∃ Fwant45 : Nat → Byte, EnvHas e [(0, .pointer (some ⟨bb1, 4, none⟩)), (1, .slice al_44 l_4.length cl_44), (4, VN ((bLists2.length * 29) + 7)), (5, .slice awant45 s50.2.1.length cwant45), (6, VN s50.2.2)] ∧ St B w0 (⟨pl_44, 0, cl_44, fun q => VU .u8 (Fl_44 q), true⟩ :: ⟨pwant45, 0, cwant45, fun q => VU .u8 (Fwant45 q), true⟩ :: ⟨some bb1, 4, 1, fun _ => .slice abLists2 bLists2.length cbLists2, true⟩ :: ⟨pbLists2, 0, cbLists2 * 1, FbLists2, true⟩ :: ⟨some bb1, 5, 1, fun _ => .slice abWant3 bWant3.length cbWant3, true⟩ :: ⟨pbWant3, 0, cbWant3 * 1, FbWant3, true⟩ :: L) w ∧ Ow al_44 pl_44 l_4.length cl_44 Fl_44 s50.1 ∧ Ow awant45 pwant45 s50.2.1.length cwant45 Fwant45 s50.2.1) ⟨al_4, pl_4, cl_4, Fl_4, none, none, 0, (fun _ => 0#8), (zer (zer (zer (zer (zer zen))))), h52, hl_4, Ow.nil⟩ ?_
  rintro ⟨l_44, want45, i_47⟩ o50 hR hx50 ev53 wl53 ⟨al_44, pl_44, cl_44, Fl_44, awant45, pwant45, cwant45, Fwant45, he53, h53, hl_44, hwant45⟩
  obtain ⟨ev53, rfl⟩ := he53.open
  unfold lethelaw04_Book_Note_at4_l0 at hR
  refine W.seq_k fun _ k54 => W.seq_k fun _ k55 => ?_
  refine W.regionT [(0, true), (1, true), (2, true), (3, true)] (by kernel_rfl) ?_
  refine Plan.move_int rfl rfl <| Plan.move_slice rfl rfl <| Plan.len FLaw04.isl28 rfl rfl <| Plan.cmpP (a := (((i_47 : Nat) : Int) : Int)) (b := (((l_4.length : Nat) : Int) : Int)) (p := i_47 < l_4.length) rfl rfl rfl rfl icmp_ltN <| Plan.nil (k55 _ _ ?_); clear k55
  by_cases hc56 : i_47 < l_4.length
  ·
   replace hR := ifT hR hc56
   refine W.condT (congrArg Value.bool (decide_eq_true hc56)) ?_
   refine W.skip ?_
   refine k54 _ _ ?_; clear k54
   refine W.seq_k fun _ k57 => ?_
   refine W.block ?_
   refine W.seq_k fun _ k58 => W.regionT [(0, true), (1, true), (2, true), (3, true), (4, true), (5, true), (6, true), (7, false)] (by kernel_rfl) ?_
   refine Plan.move_slice rfl rfl <| Plan.move_int rfl rfl <| Plan.move_int rfl rfl <| Plan.move_int rfl rfl ?_
   obtain ⟨hc59, hR⟩ := hR
   refine Plan.addN (a := ((bLists2.length * 29) + 7)) (b := i_47) rfl rfl rfl (by omega) <| Plan.convNU .u8 (a := (((bLists2.length * 29) + 7) + i_47)) FLaw04.u5 FLaw04.some3 rfl rfl ?_
   obtain ⟨hc60, hR⟩ := hR
   refine Plan.idxVS (j := i_47) h53 (hl_44.bx 0 rfl) FLaw04.sl28 rfl rfl rfl hc60 ?_
   refine Plan.storeO (j := i_47) (Y := (BitVec.ofNat 8 (((bLists2.length * 29) + 7) + i_47))) h53 0 hl_44 rfl rfl rfl rfl hc60 FLaw04.sz5 rfl fun w61 F61 ho61 h61 => ?_
   simp only [zca, zna, zsz, zss] at h61
   have e61 : (l_44.set i_47 (BitVec.ofNat 8 (((bLists2.length * 29) + 7) + i_47))).length = l_44.length := List.length_set
   refine Plan.nil (k58 _ _ ?_); clear k58
   refine W.regionT [(0, true), (1, true), (2, true), (3, true), (4, true), (5, false), (6, false), (7, true)] (by kernel_rfl) ?_
   refine Plan.move_slice rfl rfl <| Plan.move_slice rfl rfl <| Plan.move_int rfl rfl ?_
   obtain ⟨hc62, hR⟩ := hR
   refine Plan.idxVS (j := i_47) h61 ((show Ow _ _ l_4.length _ _ _ from ho61).bx 0 rfl) FLaw04.sl28 rfl rfl rfl hc62 ?_
   refine Plan.loadV (j := i_47) h61 ((show Ow _ _ l_4.length _ _ _ from ho61).bx 0 rfl) rfl rfl hc62 FLaw04.sc5 fun r63 hr63 => ?_
   refine Plan.buildSlice h61 (ps := [(1, fun q => VU .u8 (lit ([(lit (l_44.set i_47 (BitVec.ofNat 8 (((bLists2.length * 29) + 7) + i_47))) i_47)] : List Byte) q))]) FLaw04.slu28 FLaw04.sz5 FLaw04.zv5 (by decide) (by decide) rfl rfl rfl (EffO.wait rfl) fun b64 w64 hb64 h64 => ?_
   simp only [rngs, List.cons_append, List.nil_append] at h64
   have ho64 : Ow (some ⟨b64, 0, none⟩) (some b64) ([(lit (l_44.set i_47 (BitVec.ofNat 8 (((bLists2.length * 29) + 7) + i_47))) i_47)] : List Byte).length 1 (lit ([(lit (l_44.set i_47 (BitVec.ofNat 8 (((bLists2.length * 29) + 7) + i_47))) i_47)] : List Byte)) ([(lit (l_44.set i_47 (BitVec.ofNat 8 (((bLists2.length * 29) + 7) + i_47))) i_47)] : List Byte) := ⟨.inr ⟨b64, rfl, rfl⟩, Nat.le_refl _, rfl, fun q _ => rfl⟩
   obtain ⟨hc66, hR⟩ := hR
   refine Plan.appendO (X := want45) (Y := ([(lit (l_44.set i_47 (BitVec.ofNat 8 (((bLists2.length * 29) + 7) + i_47))) i_47)] : List Byte)) h64 2 hwant45 FLaw04.el28 FLaw04.sl28 rfl rfl rfl rfl (ho64.bx 0 rfl) hc66 (fun _ => EffO.keep PIn.nil) fun a65 pb65 cap65 F65 w65 ho65 h65 => ?_
   simp only [zca, zna, zsz, zss] at h65
   refine Plan.assign_slice rfl rfl <| Plan.nil ?_
   refine blockR_norm ?_
   refine k57 _ _ ?_; clear k57
   refine W.regionT [(0, true), (1, true), (2, true)] (by kernel_rfl) ?_
   refine Plan.move_int rfl rfl ?_
   obtain ⟨hc67, hR⟩ := hR
   refine Plan.addN (a := i_47) (b := 1) rfl rfl rfl (by omega) <| Plan.assign_int rfl rfl <| Plan.nil ?_
   have h68 := St.pickT (C := [_, _, _, _, _, _, _]) h65 [1, 2, 3, 4, 5, 6] (by decide)
   simp only [pick, zfc, zfn, zgz, zgs, zca, zna] at h68
   exact iterR_norm ⟨_, hR, al_44, pl_44, cl_44, F61, a65, pb65, cap65, F65, (zer (zer (zer (zer (zer zen))))), h68, (show Ow _ _ l_4.length _ _ _ from ho61), ho65⟩
  ·
   replace hR := ifF hR hc56
   refine W.condF (congrArg Value.bool (decide_eq_false hc56)) ?_
   refine W.exit (thenR_exit (iterR_exit (blockR_here ?_)))
   exact ⟨l_44, want45, (hx50 _ hR).symm, al_44, pl_44, cl_44, Fl_44, awant45, pwant45, cwant45, Fwant45, (zer (zer (zer (zer zen)))), h53, hl_44, hwant45⟩
 ·
  rintro ev69 wl69 ⟨y_l_48, y_want49, hy69, al_48, pl_48, cl_48, Fl_48, awant49, pwant49, cwant49, Fwant49, he69, h69, hl_48, hwant49⟩
  obtain ⟨ev69, rfl⟩ := he69.open
  cases hy69
  replace hR := hR050
  refine k9 _ _ ?_; clear k9
  refine W.seq_k fun _ k70 => W.regionT [(0, true), (1, true), (2, true), (3, true), (4, true)] (by kernel_rfl) ?_
  refine Plan.move_int rfl rfl ?_
  obtain ⟨hc71, hR⟩ := hR
  refine Plan.mulN (a := ((bLists2.length * 29) + 7)) (b := 3) rfl rfl rfl (by omega) ?_
  obtain ⟨hc72, hR⟩ := hR
  refine Plan.addN (a := (((bLists2.length * 29) + 7) * 3)) (b := 1) rfl rfl rfl (by omega) <| Plan.convNU .u8 (a := ((((bLists2.length * 29) + 7) * 3) + 1)) FLaw04.u5 FLaw04.some3 rfl rfl <| Plan.assign_int rfl rfl <| Plan.nil (k70 _ _ ?_); clear k70
  refine W.seq_k fun _ k73 => ?_
  refine W.regionD FLaw04.mixed [(0, true), (1, true), (2, true), (3, true), (4, true), (5, true), (6, true), (7, true), (8, true), (9, true), (10, false), (11, false), (12, false), (13, false), (14, true), (15, true), (16, false)] (by kernel_rfl) ?_
  have h74 := h69.drew
  refine Plan.move_ptr rfl rfl <| Plan.move_ptr rfl rfl <| Plan.nilCheck rfl rfl <| Plan.fieldAddr0 FLaw04.fld51_0 rfl rfl <| Plan.load0 h74 2 rfl rfl rfl (by omega) FLaw04.sc49 <| Plan.move_slice rfl rfl <| Plan.move_slice rfl rfl <| Plan.move_int rfl rfl ?_
  refine Plan.move_int rfl rfl <| Plan.move_int rfl rfl ?_
  refine Plan.buildSlice h74 (ps := [(3, fun q => VU .u8 (lit ([(BitVec.ofNat 8 ((((bLists2.length * 29) + 7) * 3) + 1)), (BitVec.ofNat 8 ((((bLists2.length * 29) + 7) * 3) + 1)), (BitVec.ofNat 8 ((((bLists2.length * 29) + 7) * 3) + 1))] : List Byte) q))]) FLaw04.slu28 FLaw04.sz5 FLaw04.zv5 (by decide) (by decide) rfl rfl rfl (EffO.keep (PIn.cons 2 rfl PIn.nil)) fun b75 w75 hb75 h75 => ?_
  simp only [rngs, List.cons_append, List.nil_append] at h75
  have ho75 : Ow (some ⟨b75, 0, none⟩) (some b75) ([(BitVec.ofNat 8 ((((bLists2.length * 29) + 7) * 3) + 1)), (BitVec.ofNat 8 ((((bLists2.length * 29) + 7) * 3) + 1)), (BitVec.ofNat 8 ((((bLists2.length * 29) + 7) * 3) + 1))] : List Byte).length 3 (lit ([(BitVec.ofNat 8 ((((bLists2.length * 29) + 7) * 3) + 1)), (BitVec.ofNat 8 ((((bLists2.length * 29) + 7) * 3) + 1)), (BitVec.ofNat 8 ((((bLists2.length * 29) + 7) * 3) + 1))] : List Byte)) ([(BitVec.ofNat 8 ((((bLists2.length * 29) + 7) * 3) + 1)), (BitVec.ofNat 8 ((((bLists2.length * 29) + 7) * 3) + 1)), (BitVec.ofNat 8 ((((bLists2.length * 29) + 7) * 3) + 1))] : List Byte) := ⟨.inr ⟨b75, rfl, rfl⟩, Nat.le_refl _, rfl, fun q _ => rfl⟩
  obtain ⟨hc77, hR⟩ := hR
  refine Plan.appendOK (X := l_48) (Y := ([(BitVec.ofNat 8 ((((bLists2.length * 29) + 7) * 3) + 1)), (BitVec.ofNat 8 ((((bLists2.length * 29) + 7) * 3) + 1)), (BitVec.ofNat 8 ((((bLists2.length * 29) + 7) * 3) + 1))] : List Byte)) h75 1 hl_48 FLaw04.el28 FLaw04.sl28 rfl rfl rfl rfl (ho75.bx 0 rfl) hc77 (fun _ _ => EffO.keep (PIn.cons 4 rfl PIn.nil)) fun a76 pb76 cap76 F76 r76 iz76 w76 ho76 hi76 hv76 h76 => ?_
  simp only [zca, zna, zsz, zss] at h76 hv76
  have h80 := St.pickT (C := [_, _, _, _, _, _, _, _]) h76 [1, 3, 4, 5, 6, 7, 0, 2] (by decide)
  simp only [pick, zfc, zfn, zgz, zgs, zca, zna] at h80
  obtain ⟨L, hL81⟩ : ∃ X, X = [⟨pb76, 0, cap76, fun q => VU .u8 (F76 q), true⟩, r76] ++ L := ⟨_, rfl⟩
  obtain ⟨LP, hQ81⟩ : ∃ X, X = [⟨pb76, 0, cap76, fun q => VU .u8 (F76 q), true⟩, r76] ++ LP := ⟨_, rfl⟩
  replace hLP : ∀ r ∈ LP, r ∈ L := by rw [hQ81, hL81]; exact frMemGrow hLP
  have h81 := St.re (N := [_, _, _, _, _, _]) hL81 h80
  simp only [zca, zna] at h81
  replace hFr : Fr2 _ _ L LP := hFr.step hL81 hQ81
  have ho82 : LO (D28.at LP) [] abLists2 pbLists2 (bLists2).length cbLists2 FbLists2 bLists2 := by rw [hQ81]; exact LO.grow D28_lifts (fun r hr => List.mem_append_right _ hr) hbLists2
  have ho83 : LO (D28.at LP) [] abWant3 pbWant3 (bWant3).length cbWant3 FbWant3 bWant3 := by rw [hQ81]; exact LO.grow D28_lifts (fun r hr => List.mem_append_right _ hr) hbWant3
  obtain ⟨ix84, hv84⟩ : ∃ i, Bx L i al_48 l_4.length cl_48 l_48 := ⟨_, by rw [hL81]; exact (Bx.two (L' := [_, _] ++ _) (j1 := 0) (j2 := 1) hv76 hi76 rfl rfl rfl rfl)⟩
  have hp84 : ∃ i, Bx LP i al_48 l_4.length cl_48 l_48 := ⟨_, by rw [hQ81]; exact (Bx.two (L' := [_, _] ++ _) (j1 := 0) (j2 := 1) hv76 hi76 rfl rfl rfl rfl)⟩
  obtain ⟨ix85, hv85⟩ : ∃ i, Bx L i a76 ((l_48 ++ ([(BitVec.ofNat 8 ((((bLists2.length * 29) + 7) * 3) + 1)), (BitVec.ofNat 8 ((((bLists2.length * 29) + 7) * 3) + 1)), (BitVec.ofNat 8 ((((bLists2.length * 29) + 7) * 3) + 1))] : List Byte)).length) cap76 (l_48 ++ ([(BitVec.ofNat 8 ((((bLists2.length * 29) + 7) * 3) + 1)), (BitVec.ofNat 8 ((((bLists2.length * 29) + 7) * 3) + 1)), (BitVec.ofNat 8 ((((bLists2.length * 29) + 7) * 3) + 1))] : List Byte)) := ⟨_, by rw [hL81]; exact (ho76.bx 0 rfl)⟩
  have hp85 : ∃ i, Bx LP i a76 ((l_48 ++ ([(BitVec.ofNat 8 ((((bLists2.length * 29) + 7) * 3) + 1)), (BitVec.ofNat 8 ((((bLists2.length * 29) + 7) * 3) + 1)), (BitVec.ofNat 8 ((((bLists2.length * 29) + 7) * 3) + 1))] : List Byte)).length) cap76 (l_48 ++ ([(BitVec.ofNat 8 ((((bLists2.length * 29) + 7) * 3) + 1)), (BitVec.ofNat 8 ((((bLists2.length * 29) + 7) * 3) + 1)), (BitVec.ofNat 8 ((((bLists2.length * 29) + 7) * 3) + 1))] : List Byte)) := ⟨_, by rw [hQ81]; exact (ho76.bx 0 rfl)⟩
  refine Plan.buildLO (D := (D28.at LP)) (sz := 1) h81 [((al_48, l_4.length, cl_48), (l_48 : (List Byte))), ((a76, (l_48 ++ ([(BitVec.ofNat 8 ((((bLists2.length * 29) + 7) * 3) + 1)), (BitVec.ofNat 8 ((((bLists2.length * 29) + 7) * 3) + 1)), (BitVec.ofNat 8 ((((bLists2.length * 29) + 7) * 3) + 1))] : List Byte)).length, cap76), ((l_48 ++ ([(BitVec.ofNat 8 ((((bLists2.length * 29) + 7) * 3) + 1)), (BitVec.ofNat 8 ((((bLists2.length * 29) + 7) * 3) + 1)), (BitVec.ofNat 8 ((((bLists2.length * 29) + 7) * 3) + 1))] : List Byte)) : (List Byte)))] FLaw04.slu49 FLaw04.sz28 FLaw04.zv28 (by decide) (by decide) rfl rfl rfl rfl (by exact (List.forall_mem_cons.2 ⟨hp84, (List.forall_mem_cons.2 ⟨hp85, (fun _ h => nomatch h)⟩)⟩)) (EffO.keep (PIn.cons 2 rfl PIn.nil)) fun b79 w79 F79 hb79 ho79 h79 => ?_
  replace ho79 : LO (D28.at LP) [] (some ⟨b79, 0, none⟩) (some b79) ([l_48, (l_48 ++ ([(BitVec.ofNat 8 ((((bLists2.length * 29) + 7) * 3) + 1)), (BitVec.ofNat 8 ((((bLists2.length * 29) + 7) * 3) + 1)), (BitVec.ofNat 8 ((((bLists2.length * 29) + 7) * 3) + 1))] : List Byte))] : List (List Byte)).length 2 F79 ([l_48, (l_48 ++ ([(BitVec.ofNat 8 ((((bLists2.length * 29) + 7) * 3) + 1)), (BitVec.ofNat 8 ((((bLists2.length * 29) + 7) * 3) + 1)), (BitVec.ofNat 8 ((((bLists2.length * 29) + 7) * 3) + 1))] : List Byte))] : List (List Byte)) := ho79.re (fun _ _ h => h)
  obtain ⟨hc87, hR⟩ := hR
  refine Plan.appendLO (D := (D28.at LP)) (X := bLists2) (Y := ([l_48, (l_48 ++ ([(BitVec.ofNat 8 ((((bLists2.length * 29) + 7) * 3) + 1)), (BitVec.ofNat 8 ((((bLists2.length * 29) + 7) * 3) + 1)), (BitVec.ofNat 8 ((((bLists2.length * 29) + 7) * 3) + 1))] : List Byte))] : List (List Byte))) (sz := 1) h79 (none, 0, 0) ([] : List Byte) 4 ho82 rfl FLaw04.el49 rfl FLaw04.slu49 rfl rfl rfl rfl (LO.lvf EL.at_flat ho79 0 rfl) (fun _ _ h => h) hc87.1 hc87.2 (fun _ => EffO.wait rfl) fun a86 pb86 cap86 F86 w86 ho86 h86 => ?_
  simp only [zca, zna, zsz, zss] at h86
  replace ho86 : LO (D28.at LP) [] a86 pb86 (bLists2 ++ ([l_48, (l_48 ++ ([(BitVec.ofNat 8 ((((bLists2.length * 29) + 7) * 3) + 1)), (BitVec.ofNat 8 ((((bLists2.length * 29) + 7) * 3) + 1)), (BitVec.ofNat 8 ((((bLists2.length * 29) + 7) * 3) + 1))] : List Byte))] : List (List Byte))).length cap86 F86 (bLists2 ++ ([l_48, (l_48 ++ ([(BitVec.ofNat 8 ((((bLists2.length * 29) + 7) * 3) + 1)), (BitVec.ofNat 8 ((((bLists2.length * 29) + 7) * 3) + 1)), (BitVec.ofNat 8 ((((bLists2.length * 29) + 7) * 3) + 1))] : List Byte))] : List (List Byte))) := ho86.re (fun _ _ h => h)
  refine Plan.nilCheck rfl rfl <| Plan.fieldAddr0 FLaw04.fld51_0 rfl rfl ?_
  refine Plan.storeC h86 3 rfl rfl rfl rfl rfl FLaw04.sz49 rfl fun w88 h88 => ?_
  simp only [zca, zna, zsz, zss] at h88
  refine Plan.nil (k73 _ _ ?_); clear k73
  refine W.regionD FLaw04.mixed [(0, true), (1, true), (2, true), (3, true), (4, true), (5, true), (6, true), (7, true), (8, true), (9, true), (10, false), (11, false), (12, false), (13, false), (14, true), (15, true), (16, false)] (by kernel_rfl) ?_
  have h89 := h88.drew
  refine Plan.move_ptr rfl rfl <| Plan.move_ptr rfl rfl <| Plan.nilCheck rfl rfl <| Plan.fieldAddr 1 FLaw04.fld51_1 rfl rfl <| Plan.load0 h89 5 rfl rfl rfl (by omega) FLaw04.sc49 <| Plan.move_slice rfl rfl <| Plan.move_slice rfl rfl <| Plan.move_int rfl rfl ?_
  refine Plan.move_int rfl rfl <| Plan.move_int rfl rfl ?_
  refine Plan.buildSlice h89 (ps := [(3, fun q => VU .u8 (lit ([(BitVec.ofNat 8 ((((bLists2.length * 29) + 7) * 3) + 1)), (BitVec.ofNat 8 ((((bLists2.length * 29) + 7) * 3) + 1)), (BitVec.ofNat 8 ((((bLists2.length * 29) + 7) * 3) + 1))] : List Byte) q))]) FLaw04.slu28 FLaw04.sz5 FLaw04.zv5 (by decide) (by decide) rfl rfl rfl (EffO.keep (PIn.cons 5 rfl PIn.nil)) fun b90 w90 hb90 h90 => ?_
  simp only [rngs, List.cons_append, List.nil_append] at h90
  have ho90 : Ow (some ⟨b90, 0, none⟩) (some b90) ([(BitVec.ofNat 8 ((((bLists2.length * 29) + 7) * 3) + 1)), (BitVec.ofNat 8 ((((bLists2.length * 29) + 7) * 3) + 1)), (BitVec.ofNat 8 ((((bLists2.length * 29) + 7) * 3) + 1))] : List Byte).length 3 (lit ([(BitVec.ofNat 8 ((((bLists2.length * 29) + 7) * 3) + 1)), (BitVec.ofNat 8 ((((bLists2.length * 29) + 7) * 3) + 1)), (BitVec.ofNat 8 ((((bLists2.length * 29) + 7) * 3) + 1))] : List Byte)) ([(BitVec.ofNat 8 ((((bLists2.length * 29) + 7) * 3) + 1)), (BitVec.ofNat 8 ((((bLists2.length * 29) + 7) * 3) + 1)), (BitVec.ofNat 8 ((((bLists2.length * 29) + 7) * 3) + 1))] : List Byte) := ⟨.inr ⟨b90, rfl, rfl⟩, Nat.le_refl _, rfl, fun q _ => rfl⟩
  obtain ⟨hc92, hR⟩ := hR
  refine Plan.appendOK (X := want49) (Y := ([(BitVec.ofNat 8 ((((bLists2.length * 29) + 7) * 3) + 1)), (BitVec.ofNat 8 ((((bLists2.length * 29) + 7) * 3) + 1)), (BitVec.ofNat 8 ((((bLists2.length * 29) + 7) * 3) + 1))] : List Byte)) h90 3 hwant49 FLaw04.el28 FLaw04.sl28 rfl rfl rfl rfl (ho90.bx 0 rfl) hc92 (fun _ _ => EffO.keep (PIn.cons 7 rfl PIn.nil)) fun a91 pb91 cap91 F91 r91 iz91 w91 ho91 hi91 hv91 h91 => ?_
  simp only [zca, zna, zsz, zss] at h91 hv91
  have h95 := St.pickT (C := [_, _, _, _, _, _, _, _, _]) h91 [1, 2, 3, 5, 6, 7, 8, 0, 4] (by decide)
  simp only [pick, zfc, zfn, zgz, zgs, zca, zna] at h95
  obtain ⟨L, hL96⟩ : ∃ X, X = [⟨pb91, 0, cap91, fun q => VU .u8 (F91 q), true⟩, r91] ++ L := ⟨_, rfl⟩
  obtain ⟨LP, hQ96⟩ : ∃ X, X = [⟨pb91, 0, cap91, fun q => VU .u8 (F91 q), true⟩, r91] ++ LP := ⟨_, rfl⟩
  replace hLP : ∀ r ∈ LP, r ∈ L := by rw [hQ96, hL96]; exact frMemGrow hLP
  have h96 := St.re (N := [_, _, _, _, _, _, _]) hL96 h95
  simp only [zca, zna] at h96
  replace hFr : Fr2 _ _ L LP := hFr.step hL96 hQ96
  obtain ⟨ix97, hv97⟩ : ∃ i, Bx L i al_48 l_4.length cl_48 l_48 := ⟨_, by rw [hL96]; exact hv84.app _⟩
  have hp97 : ∃ i, Bx LP i al_48 l_4.length cl_48 l_48 := by rw [hQ96]; exact ⟨_, hp84.choose_spec.app _⟩
  obtain ⟨ix98, hv98⟩ : ∃ i, Bx L i a76 ((l_48 ++ ([(BitVec.ofNat 8 ((((bLists2.length * 29) + 7) * 3) + 1)), (BitVec.ofNat 8 ((((bLists2.length * 29) + 7) * 3) + 1)), (BitVec.ofNat 8 ((((bLists2.length * 29) + 7) * 3) + 1))] : List Byte)).length) cap76 (l_48 ++ ([(BitVec.ofNat 8 ((((bLists2.length * 29) + 7) * 3) + 1)), (BitVec.ofNat 8 ((((bLists2.length * 29) + 7) * 3) + 1)), (BitVec.ofNat 8 ((((bLists2.length * 29) + 7) * 3) + 1))] : List Byte)) := ⟨_, by rw [hL96]; exact hv85.app _⟩
  have hp98 : ∃ i, Bx LP i a76 ((l_48 ++ ([(BitVec.ofNat 8 ((((bLists2.length * 29) + 7) * 3) + 1)), (BitVec.ofNat 8 ((((bLists2.length * 29) + 7) * 3) + 1)), (BitVec.ofNat 8 ((((bLists2.length * 29) + 7) * 3) + 1))] : List Byte)).length) cap76 (l_48 ++ ([(BitVec.ofNat 8 ((((bLists2.length * 29) + 7) * 3) + 1)), (BitVec.ofNat 8 ((((bLists2.length * 29) + 7) * 3) + 1)), (BitVec.ofNat 8 ((((bLists2.length * 29) + 7) * 3) + 1))] : List Byte)) := by rw [hQ96]; exact ⟨_, hp85.choose_spec.app _⟩
  have ho99 : LO (D28.at LP) [] (some ⟨b79, 0, none⟩) (some b79) (([l_48, (l_48 ++ ([(BitVec.ofNat 8 ((((bLists2.length * 29) + 7) * 3) + 1)), (BitVec.ofNat 8 ((((bLists2.length * 29) + 7) * 3) + 1)), (BitVec.ofNat 8 ((((bLists2.length * 29) + 7) * 3) + 1))] : List Byte))] : List (List Byte))).length 2 F79 ([l_48, (l_48 ++ ([(BitVec.ofNat 8 ((((bLists2.length * 29) + 7) * 3) + 1)), (BitVec.ofNat 8 ((((bLists2.length * 29) + 7) * 3) + 1)), (BitVec.ofNat 8 ((((bLists2.length * 29) + 7) * 3) + 1))] : List Byte))] : List (List Byte)) := by rw [hQ96]; exact LO.grow D28_lifts (fun r hr => List.mem_append_right _ hr) ho79
  have ho100 : LO (D28.at LP) [] a86 pb86 ((bLists2 ++ ([l_48, (l_48 ++ ([(BitVec.ofNat 8 ((((bLists2.length * 29) + 7) * 3) + 1)), (BitVec.ofNat 8 ((((bLists2.length * 29) + 7) * 3) + 1)), (BitVec.ofNat 8 ((((bLists2.length * 29) + 7) * 3) + 1))] : List Byte))] : List (List Byte)))).length cap86 F86 (bLists2 ++ ([l_48, (l_48 ++ ([(BitVec.ofNat 8 ((((bLists2.length * 29) + 7) * 3) + 1)), (BitVec.ofNat 8 ((((bLists2.length * 29) + 7) * 3) + 1)), (BitVec.ofNat 8 ((((bLists2.length * 29) + 7) * 3) + 1))] : List Byte))] : List (List Byte))) := by rw [hQ96]; exact LO.grow D28_lifts (fun r hr => List.mem_append_right _ hr) ho86
  have ho101 : LO (D28.at LP) [] abWant3 pbWant3 (bWant3).length cbWant3 FbWant3 bWant3 := by rw [hQ96]; exact LO.grow D28_lifts (fun r hr => List.mem_append_right _ hr) ho83
  obtain ⟨ix102, hv102⟩ : ∃ i, Bx L i awant49 want49.length cwant49 want49 := ⟨_, by rw [hL96]; exact (Bx.two (L' := [_, _] ++ _) (j1 := 0) (j2 := 1) hv91 hi91 rfl rfl rfl rfl)⟩
  have hp102 : ∃ i, Bx LP i awant49 want49.length cwant49 want49 := ⟨_, by rw [hQ96]; exact (Bx.two (L' := [_, _] ++ _) (j1 := 0) (j2 := 1) hv91 hi91 rfl rfl rfl rfl)⟩
  obtain ⟨ix103, hv103⟩ : ∃ i, Bx L i a91 ((want49 ++ ([(BitVec.ofNat 8 ((((bLists2.length * 29) + 7) * 3) + 1)), (BitVec.ofNat 8 ((((bLists2.length * 29) + 7) * 3) + 1)), (BitVec.ofNat 8 ((((bLists2.length * 29) + 7) * 3) + 1))] : List Byte)).length) cap91 (want49 ++ ([(BitVec.ofNat 8 ((((bLists2.length * 29) + 7) * 3) + 1)), (BitVec.ofNat 8 ((((bLists2.length * 29) + 7) * 3) + 1)), (BitVec.ofNat 8 ((((bLists2.length * 29) + 7) * 3) + 1))] : List Byte)) := ⟨_, by rw [hL96]; exact (ho91.bx 0 rfl)⟩
  have hp103 : ∃ i, Bx LP i a91 ((want49 ++ ([(BitVec.ofNat 8 ((((bLists2.length * 29) + 7) * 3) + 1)), (BitVec.ofNat 8 ((((bLists2.length * 29) + 7) * 3) + 1)), (BitVec.ofNat 8 ((((bLists2.length * 29) + 7) * 3) + 1))] : List Byte)).length) cap91 (want49 ++ ([(BitVec.ofNat 8 ((((bLists2.length * 29) + 7) * 3) + 1)), (BitVec.ofNat 8 ((((bLists2.length * 29) + 7) * 3) + 1)), (BitVec.ofNat 8 ((((bLists2.length * 29) + 7) * 3) + 1))] : List Byte)) := ⟨_, by rw [hQ96]; exact (ho91.bx 0 rfl)⟩
  refine Plan.buildLO (D := (D28.at LP)) (sz := 1) h96 [((awant49, want49.length, cwant49), (want49 : (List Byte))), ((a91, (want49 ++ ([(BitVec.ofNat 8 ((((bLists2.length * 29) + 7) * 3) + 1)), (BitVec.ofNat 8 ((((bLists2.length * 29) + 7) * 3) + 1)), (BitVec.ofNat 8 ((((bLists2.length * 29) + 7) * 3) + 1))] : List Byte)).length, cap91), ((want49 ++ ([(BitVec.ofNat 8 ((((bLists2.length * 29) + 7) * 3) + 1)), (BitVec.ofNat 8 ((((bLists2.length * 29) + 7) * 3) + 1)), (BitVec.ofNat 8 ((((bLists2.length * 29) + 7) * 3) + 1))] : List Byte)) : (List Byte)))] FLaw04.slu49 FLaw04.sz28 FLaw04.zv28 (by decide) (by decide) rfl rfl rfl rfl (by exact (List.forall_mem_cons.2 ⟨hp102, (List.forall_mem_cons.2 ⟨hp103, (fun _ h => nomatch h)⟩)⟩)) (EffO.keep (PIn.cons 5 rfl PIn.nil)) fun b94 w94 F94 hb94 ho94 h94 => ?_
  replace ho94 : LO (D28.at LP) [] (some ⟨b94, 0, none⟩) (some b94) ([want49, (want49 ++ ([(BitVec.ofNat 8 ((((bLists2.length * 29) + 7) * 3) + 1)), (BitVec.ofNat 8 ((((bLists2.length * 29) + 7) * 3) + 1)), (BitVec.ofNat 8 ((((bLists2.length * 29) + 7) * 3) + 1))] : List Byte))] : List (List Byte)).length 2 F94 ([want49, (want49 ++ ([(BitVec.ofNat 8 ((((bLists2.length * 29) + 7) * 3) + 1)), (BitVec.ofNat 8 ((((bLists2.length * 29) + 7) * 3) + 1)), (BitVec.ofNat 8 ((((bLists2.length * 29) + 7) * 3) + 1))] : List Byte))] : List (List Byte)) := ho94.re (fun _ _ h => h)
  obtain ⟨hc105, hR⟩ := hR
  refine Plan.appendLO (D := (D28.at LP)) (X := bWant3) (Y := ([want49, (want49 ++ ([(BitVec.ofNat 8 ((((bLists2.length * 29) + 7) * 3) + 1)), (BitVec.ofNat 8 ((((bLists2.length * 29) + 7) * 3) + 1)), (BitVec.ofNat 8 ((((bLists2.length * 29) + 7) * 3) + 1))] : List Byte))] : List (List Byte))) (sz := 1) h94 (none, 0, 0) ([] : List Byte) 7 ho101 rfl FLaw04.el49 rfl FLaw04.slu49 rfl rfl rfl rfl (LO.lvf EL.at_flat ho94 0 rfl) (fun _ _ h => h) hc105.1 hc105.2 (fun _ => EffO.wait rfl) fun a104 pb104 cap104 F104 w104 ho104 h104 => ?_
  simp only [zca, zna, zsz, zss] at h104
  replace ho104 : LO (D28.at LP) [] a104 pb104 (bWant3 ++ ([want49, (want49 ++ ([(BitVec.ofNat 8 ((((bLists2.length * 29) + 7) * 3) + 1)), (BitVec.ofNat 8 ((((bLists2.length * 29) + 7) * 3) + 1)), (BitVec.ofNat 8 ((((bLists2.length * 29) + 7) * 3) + 1))] : List Byte))] : List (List Byte))).length cap104 F104 (bWant3 ++ ([want49, (want49 ++ ([(BitVec.ofNat 8 ((((bLists2.length * 29) + 7) * 3) + 1)), (BitVec.ofNat 8 ((((bLists2.length * 29) + 7) * 3) + 1)), (BitVec.ofNat 8 ((((bLists2.length * 29) + 7) * 3) + 1))] : List Byte))] : List (List Byte))) := ho104.re (fun _ _ h => h)
  refine Plan.nilCheck rfl rfl <| Plan.fieldAddr 1 FLaw04.fld51_1 rfl rfl ?_
  refine Plan.storeC h104 6 rfl rfl rfl rfl rfl FLaw04.sz49 rfl fun w106 h106 => ?_
  simp only [zca, zna, zsz, zss] at h106
  refine Plan.nil ?_
  refine finR_norm ?_
  have h107 := St.pickT (C := [_, _, _, _, _, _, _, _]) h106 [4, 5, 6, 7] (by decide)
  simp only [pick, zfc, zfn, zgz, zgs, zca, zna] at h107
  subst r
  refine RetOk.mk .nil ?_
  obtain ⟨CF, hx1, hx2⟩ := hFr
  subst hx1
  subst hx2
  exact ⟨_, a86, pb86, (bLists2 ++ ([l_48, (l_48 ++ ([(BitVec.ofNat 8 ((((bLists2.length * 29) + 7) * 3) + 1)), (BitVec.ofNat 8 ((((bLists2.length * 29) + 7) * 3) + 1)), (BitVec.ofNat 8 ((((bLists2.length * 29) + 7) * 3) + 1))] : List Byte))] : List (List Byte))).length, cap86, F86, a104, pb104, (bWant3 ++ ([want49, (want49 ++ ([(BitVec.ofNat 8 ((((bLists2.length * 29) + 7) * 3) + 1)), (BitVec.ofNat 8 ((((bLists2.length * 29) + 7) * 3) + 1)), (BitVec.ofNat 8 ((((bLists2.length * 29) + 7) * 3) + 1))] : List Byte))] : List (List Byte))).length, cap104, F104, rfl, h107, ho100, ho104⟩
theorem lethelaw04_Book_Holds_at4_ok {B : Nat} {w0 w : World} {L : List Rg} {bb1 : Nat} {bLists2 : List (List Byte)} {abLists2 : Option Addr} {nbLists2 cbLists2 ibLists2 : Nat} (hbLists2 : LV (D28.at L) L ibLists2 abLists2 nbLists2 cbLists2 bLists2) {bWant3 : List (List Byte)} {abWant3 : Option Addr} {nbWant3 cbWant3 ibWant3 : Nat} (hbWant3 : LV (D28.at L) L ibWant3 abWant3 nbWant3 cbWant3 bWant3) {r : Bool} (hR : lethelaw04_Book_Holds_at4 bLists2 bWant3 r) (HST : St B w0 (⟨some bb1, 4, 1, fun _ => .slice abLists2 nbLists2 cbLists2, true⟩ :: ⟨some bb1, 5, 1, fun _ => .slice abWant3 nbWant3 cbWant3, true⟩ :: L) w) :
  Calls Try.prog 22 #[.pointer (some ⟨bb1, 4, none⟩)] w fun e w' => e = .returned (.bool r) ∧ St B w0 (⟨some bb1, 4, 1, fun _ => .slice abLists2 nbLists2 cbLists2, true⟩ :: ⟨some bb1, 5, 1, fun _ => .slice abWant3 nbWant3 cbWant3, true⟩ :: L) w' := by
 refine W.enter 29 Try.func22 rfl rfl rfl ?_
 unfold lethelaw04_Book_Holds_at4 at hR
 have ebLists2 := hbLists2.hl; subst ebLists2
 have ebWant3 := hbWant3.hl; subst ebWant3
 refine W.seq_k fun _ k4 => W.regionT [(0, true)] (by kernel_rfl) ?_
 refine Plan.assign_bool rfl rfl <| Plan.nil (k4 _ _ ?_); clear k4
 refine W.seq_k fun _ k5 => W.seq_k fun _ k6 => ?_
 refine W.regionT [(0, true)] (by kernel_rfl) ?_
 refine Plan.assign_int rfl rfl <| Plan.nil (k6 _ _ ?_); clear k6
 obtain ⟨x40, hI40, hR040⟩ := hR
 refine W.cutN (fun e w => x40 = some () ∧ EnvHas e [] ∧ St B w0 (⟨some bb1, 4, 1, fun _ => .slice abLists2 bLists2.length cbLists2, true⟩ :: ⟨some bb1, 5, 1, fun _ => .slice abWant3 bWant3.length cbWant3, true⟩ :: L) w) ?_ ?_
 ·
  refine W.block ?_
  refine W.iter hI40 (fun (s40 : Nat) e w => EnvHas e [(0, .pointer (some ⟨bb1, 4, none⟩)), (3, VN s40)] ∧ St B w0 (⟨some bb1, 4, 1, fun _ => .slice abLists2 bLists2.length cbLists2, true⟩ :: ⟨some bb1, 5, 1, fun _ => .slice abWant3 bWant3.length cbWant3, true⟩ :: L) w) ⟨(zer (zer zen)), HST⟩ ?_
  rintro i_39 o40 hR hx40 ev41 wl41 ⟨he41, h41⟩
  obtain ⟨ev41, rfl⟩ := he41.open
  unfold lethelaw04_Book_Holds_at4_l0 at hR
  refine W.seq_k fun _ k42 => W.seq_k fun _ k43 => ?_
  refine W.regionT [(0, true), (1, true), (2, true), (3, true), (4, true), (5, true), (6, true)] (by kernel_rfl) ?_
  refine Plan.move_int rfl rfl <| Plan.move_ptr rfl rfl <| Plan.nilCheck rfl rfl <| Plan.fieldAddr0 FLaw04.fld51_0 rfl rfl <| Plan.load0 h41 0 rfl rfl rfl (by omega) FLaw04.sc49 <| Plan.len FLaw04.isl49 rfl rfl <| Plan.cmpP (a := (((i_39 : Nat) : Int) : Int)) (b := (((bLists2.length : Nat) : Int) : Int)) (p := i_39 < bLists2.length) rfl rfl rfl rfl icmp_ltN <| Plan.nil (k43 _ _ ?_); clear k43
  by_cases hc44 : i_39 < bLists2.length
  ·
   replace hR := ifT hR hc44
   refine W.condT (congrArg Value.bool (decide_eq_true hc44)) ?_
   refine W.skip ?_
   refine k42 _ _ ?_; clear k42
   refine W.seq_k fun _ k45 => ?_
   refine W.block ?_
   refine W.seq_k fun _ k46 => ?_
   refine W.regionD FLaw04.mixed [(0, true), (1, true), (2, true), (3, true), (4, true), (5, true), (6, true), (7, true), (8, true), (9, true), (10, true), (11, true), (12, true), (13, true), (14, false), (15, true)] (by kernel_rfl) ?_
   have h47 := h41.drew
   refine Plan.move_ptr rfl rfl <| Plan.nilCheck rfl rfl <| Plan.fieldAddr0 FLaw04.fld51_0 rfl rfl <| Plan.load0 h47 0 rfl rfl rfl (by omega) FLaw04.sc49 <| Plan.move_int rfl rfl ?_
   obtain ⟨hc48, hR⟩ := hR
   refine Plan.idxLVS (D := (D28.at L)) (j := i_39) h47 (hbLists2.app [_, _]) FLaw04.sl49 rfl rfl rfl hc48 ?_
   refine Plan.loadLV1 (D := (D28.at L)) (X := bLists2) (j := i_39) h47 ([] : List Byte) (fun b _ => .slice b.1 b.2.1 b.2.2) (hbLists2.app [_, _]) rfl rfl hc48 rfl (fun _ _ => rfl) FLaw04.sc28 fun b49 r49 hs49 hr49 => ?_
   obtain ⟨i49_0, hv49_0⟩ := hs49
   obtain ⟨ab49, nb49, cb49⟩ := b49
   obtain rfl : ((bLists2.getD i_39 ([] : List Byte))).length = nb49 := hv49_0.hl
   refine Plan.move_ptr rfl rfl <| Plan.nilCheck rfl rfl <| Plan.fieldAddr 1 FLaw04.fld51_1 rfl rfl <| Plan.load0 h47 1 rfl rfl rfl (by omega) FLaw04.sc49 <| Plan.move_int rfl rfl ?_
   obtain ⟨hc50, hR⟩ := hR
   refine Plan.idxLVS (D := (D28.at L)) (j := i_39) h47 (hbWant3.app [_, _]) FLaw04.sl49 rfl rfl rfl hc50 ?_
   refine Plan.loadLV1 (D := (D28.at L)) (X := bWant3) (j := i_39) h47 ([] : List Byte) (fun b _ => .slice b.1 b.2.1 b.2.2) (hbWant3.app [_, _]) rfl rfl hc50 rfl (fun _ _ => rfl) FLaw04.sc28 fun b51 r51 hs51 hr51 => ?_
   obtain ⟨i51_0, hv51_0⟩ := hs51
   obtain ⟨ab51, nb51, cb51⟩ := b51
   obtain rfl : ((bWant3.getD i_39 ([] : List Byte))).length = nb51 := hv51_0.hl
   obtain ⟨x_53, hr52, hR⟩ := hR
   refine Plan.call (vs := [.slice ab49 (((bLists2.getD i_39 ([] : List Byte))).length) cb49, .slice ab51 (((bWant3.getD i_39 ([] : List Byte))).length) cb51]) rfl FLaw04.call14 rfl (lethelaw04_Eq_ok (hv49_0.app [_, _]) (hv51_0.app [_, _]) hr52 h47) ?_
   rintro _ w54 ⟨rfl, h54⟩
   refine ⟨_, rfl, .inl ⟨PIn.keep (PIn.cons (ibWant3 + 2) hr51 (PIn.cons 1 rfl (PIn.cons (ibLists2 + 2) hr49 (PIn.cons 0 rfl PIn.nil)))) h54, ?_⟩⟩
   refine Plan.not rfl rfl <| Plan.nil (k46 _ _ ?_); clear k46
   by_cases hc55 : x_53 = true
   ·
    replace hR := ifT hR hc55
    refine W.condF (congrArg Value.bool (congrArg Bool.not hc55)) ?_
    refine W.skip ?_
    refine blockR_norm ?_
    refine k45 _ _ ?_; clear k45
    refine W.regionT [(0, true), (1, true), (2, true)] (by kernel_rfl) ?_
    refine Plan.move_int rfl rfl ?_
    obtain ⟨hc56, hR⟩ := hR
    refine Plan.addN (a := i_39) (b := 1) rfl rfl rfl (by omega) <| Plan.assign_int rfl rfl <| Plan.nil ?_
    exact iterR_norm ⟨_, hR, (zer (zer zen)), h54⟩
   ·
    replace hR := ifF hR hc55
    refine W.condT (congrArg Value.bool (congrArg Bool.not (Bool.eq_false_iff.2 hc55))) ?_
    refine W.seq_k fun _ k57 => W.regionT [(0, true)] (by kernel_rfl) ?_
    refine Plan.assign_bool rfl rfl <| Plan.nil (k57 _ _ ?_); clear k57
    refine W.ret (blockR_ret (thenR_ret (iterR_ret (blockR_ret (thenR_ret (thenR_ret (finR_ret ?_)))))))
    replace hR := hR.2
    subst r
    refine RetOk.mk (.tmp_bool rfl .nil) ?_
    exact ⟨rfl, h54⟩
  ·
   replace hR := ifF hR hc44
   refine W.condF (congrArg Value.bool (decide_eq_false hc44)) ?_
   refine W.exit (thenR_exit (iterR_exit (blockR_here ?_)))
   exact ⟨(hx40 _ hR).symm, zen, h41⟩
 ·
  rintro ev58 wl58 ⟨hy58, he58, h58⟩
  obtain ⟨ev58, rfl⟩ := he58.open
  replace hR := hR040  hy58
  refine k5 _ _ ?_; clear k5
  refine W.seq_k fun _ k59 => W.regionT [(0, true)] (by kernel_rfl) ?_
  refine Plan.assign_bool rfl rfl <| Plan.nil (k59 _ _ ?_); clear k59
  refine W.ret (finR_ret ?_)
  subst r
  refine RetOk.mk (.tmp_bool rfl .nil) ?_
  exact ⟨rfl, h58⟩
end Go.Proofs.Ythjkmhdgenmnoaa
