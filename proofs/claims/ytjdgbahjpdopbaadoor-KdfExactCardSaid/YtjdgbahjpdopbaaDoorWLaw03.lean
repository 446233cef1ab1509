/-
  WALKS of the package's functions, printed by this session's own program (auto.py).
-/
import Derived.Test.YtjdgbahjpdopbaaDoorProg
import Derived.Test.YtjdgbahjpdopbaaDoorEc
import Derived.Test.YtjdgbahjpdopbaaDoorRLaw03
import Derived.Test.YtjdgbahjpdopbaaDoorEls
import Derived.Test.YtjdgbahjpdopbaaDoorWKdf
import Derived.Test.YtjdgbahjpdopbaaDoorWRef03
namespace Go.Proofs.YtjdgbahjpdopbaaDoor
set_option linter.unusedSimpArgs false
set_option linter.unusedVariables false
set_option linter.unusedSectionVars false
open Go Go.LW
theorem FLaw03.agg81 : aggT Tryd.prog 81 5 = true := by kernel_rfl
theorem FLaw03.mixed : Tryd.prog.follows .mixedOrders = true := by kernel_rfl
theorem FLaw03.fld81_1 : fieldB Tryd.prog 81 1 1 = true := by kernel_rfl
theorem FLaw03.sc22 : scalarT Tryd.prog 22 = true := by kernel_rfl
theorem FLaw03.fld81_2 : fieldB Tryd.prog 81 2 2 = true := by kernel_rfl
theorem FLaw03.fld81_3 : fieldB Tryd.prog 81 3 3 = true := by kernel_rfl
theorem FLaw03.isl22 : ∃ el, Tryd.prog.underlying 22 = some (.slice el) := ⟨5, by kernel_rfl⟩
theorem FLaw03.sl22 : slB Tryd.prog 22 1 = true := by kernel_rfl
theorem FLaw03.call33 : callB Tryd.prog 33 = true := by kernel_rfl
theorem FLaw03.el22 : elD Tryd.prog 22 = some (1, 1, some (VU .u8 0#8)) := by kernel_rfl
theorem FLaw03.zv5 : (Tryd.prog.info? 5).bind (·.zero) = some (VU .u8 0#8) := by kernel_rfl
theorem FLaw03.slu22 : Tryd.prog.underlying 22 = some (.slice 5) := by kernel_rfl
theorem FLaw03.sz5 : szT Tryd.prog 5 1 = true := by kernel_rfl
theorem FLaw03.call57 : callB Tryd.prog 57 = true := by kernel_rfl
theorem FLaw03.fld81_0 : fieldB Tryd.prog 81 0 0 = true := by kernel_rfl
theorem FLaw03.sc3 : scalarT Tryd.prog 3 = true := by kernel_rfl
theorem FLaw03.zv22 : (Tryd.prog.info? 22).bind (·.zero) = some (.slice none 0 0) := by kernel_rfl
theorem FLaw03.slu75 : Tryd.prog.underlying 75 = some (.slice 22) := by kernel_rfl
theorem FLaw03.sz22 : szT Tryd.prog 22 1 = true := by kernel_rfl
theorem FLaw03.isl75 : ∃ el, Tryd.prog.underlying 75 = some (.slice el) := ⟨22, by kernel_rfl⟩
theorem FLaw03.sl75 : slB Tryd.prog 75 1 = true := by kernel_rfl
theorem FLaw03.sc5 : scalarT Tryd.prog 5 = true := by kernel_rfl
theorem FLaw03.some3 : (Tryd.prog.underlying 3).isSome = true := by kernel_rfl
theorem FLaw03.u5 : Tryd.prog.underlying 5 = some (.int .u8) := by kernel_rfl
theorem FLaw03.call36 : callB Tryd.prog 36 = true := by kernel_rfl
theorem FLaw03.call59 : callB Tryd.prog 59 = true := by kernel_rfl
theorem FLaw03.agg31 : aggT Tryd.prog 31 32 = true := by kernel_rfl
theorem FLaw03.call58 : callB Tryd.prog 58 = true := by kernel_rfl
theorem FLaw03.arrI32 : arrIB Tryd.prog 32 32 .u8 = true := by kernel_rfl
theorem FLaw03.call37 : callB Tryd.prog 37 = true := by kernel_rfl
theorem FLaw03.call60 : callB Tryd.prog 60 = true := by kernel_rfl
theorem FLaw03.fld81_4 : fieldB Tryd.prog 81 4 4 = true := by kernel_rfl
theorem FLaw03.call40 : callB Tryd.prog 40 = true := by kernel_rfl
theorem FLaw03.call75 : callB Tryd.prog 75 = true := by kernel_rfl
theorem FLaw03.call42 : callB Tryd.prog 42 = true := by kernel_rfl
theorem FLaw03.call64 : callB Tryd.prog 64 = true := by kernel_rfl
theorem FLaw03.str9 : Tryd.prog.underlying 9 = some .string := by kernel_rfl
theorem FLaw03.call41 : callB Tryd.prog 41 = true := by kernel_rfl
theorem FLaw03.fld78_0 : fieldB Tryd.prog 78 0 0 = true := by kernel_rfl
theorem FLaw03.sc75 : scalarT Tryd.prog 75 = true := by kernel_rfl
theorem FLaw03.el75 : elD Tryd.prog 75 = some (1, 24, some (.slice none 0 0)) := by kernel_rfl
theorem FLaw03.sz75 : szT Tryd.prog 75 1 = true := by kernel_rfl
theorem FLaw03.fld78_1 : fieldB Tryd.prog 78 1 1 = true := by kernel_rfl
theorem FLaw03.call76 : callB Tryd.prog 76 = true := by kernel_rfl
theorem FLaw03.call61 : callB Tryd.prog 61 = true := by kernel_rfl
theorem FLaw03.agg61 : aggT Tryd.prog 61 32 = true := by kernel_rfl
theorem FLaw03.zv61 : (Tryd.prog.info? 61).bind (·.zero) = some (AG [(32, fun _ => VU .u8 0#8)]) := by kernel_rfl
theorem FLaw03.slu62 : Tryd.prog.underlying 62 = some (.slice 61) := by kernel_rfl
theorem FLaw03.sz61 : szT Tryd.prog 61 32 = true := by kernel_rfl
theorem FLaw03.el62 : elD Tryd.prog 62 = some (32, 32, some (AG [(32, fun _ => VU .u8 0#8)])) := by kernel_rfl
theorem FLaw03.call45 : callB Tryd.prog 45 = true := by kernel_rfl
theorem FLaw03.call77 : callB Tryd.prog 77 = true := by kernel_rfl
theorem FLaw03.isl62 : ∃ el, Tryd.prog.underlying 62 = some (.slice el) := ⟨61, by kernel_rfl⟩
theorem FLaw03.isl113 : ∃ el, Tryd.prog.underlying 113 = some (.slice el) := ⟨31, by kernel_rfl⟩
theorem FLaw03.sl62 : slB Tryd.prog 62 32 = true := by kernel_rfl
theorem FLaw03.sl113 : slB Tryd.prog 113 32 = true := by kernel_rfl
theorem FLaw03.arrI61 : arrIB Tryd.prog 61 32 .u8 = true := by kernel_rfl
theorem FLaw03.fld78_2 : fieldB Tryd.prog 78 2 2 = true := by kernel_rfl
theorem FLaw03.sc76 : scalarT Tryd.prog 76 = true := by kernel_rfl
theorem FLaw03.isl76 : ∃ el, Tryd.prog.underlying 76 = some (.slice el) := ⟨62, by kernel_rfl⟩
theorem FLaw03.arr61 : arrB Tryd.prog 61 32 1 = true := by kernel_rfl
theorem FLaw03.z61 : zeroIs Tryd.prog 61 [(32, fun _ => VU .u8 0#8)] := zeroIs_agg (by kernel_rfl)
theorem FLaw03.zv62 : (Tryd.prog.info? 62).bind (·.zero) = some (.slice none 0 0) := by kernel_rfl
theorem FLaw03.slu76 : Tryd.prog.underlying 76 = some (.slice 62) := by kernel_rfl
theorem FLaw03.sz62 : szT Tryd.prog 62 1 = true := by kernel_rfl
theorem FLaw03.el76 : elD Tryd.prog 76 = some (1, 24, some (.slice none 0 0)) := by kernel_rfl
theorem FLaw03.sz76 : szT Tryd.prog 76 1 = true := by kernel_rfl
theorem FLaw03.fld78_3 : fieldB Tryd.prog 78 3 3 = true := by kernel_rfl
theorem FLaw03.call78 : callB Tryd.prog 78 = true := by kernel_rfl
theorem FLaw03.call62 : callB Tryd.prog 62 = true := by kernel_rfl
theorem FLaw03.call63 : callB Tryd.prog 63 = true := by kernel_rfl
theorem FLaw03.sl76 : slB Tryd.prog 76 1 = true := by kernel_rfl
theorem FLaw03.sc62 : scalarT Tryd.prog 62 = true := by kernel_rfl

set_option maxRecDepth 8000 in
set_option maxHeartbeats 1000000 in
theorem lethelaw03_short_ok {B : Nat} {w0 w : World} {L : List Rg} {b1 : List Byte} {ab1 : Option Addr} {nb1 cb1 ib1 : Nat} (hb1 : Bx L ib1 ab1 nb1 cb1 b1) {r : (List Byte)} (hR : lethelaw03_short b1 r) (HST : St B w0 (L) w) :
    Calls Tryd.prog 33 #[.slice ab1 nb1 cb1] w fun e w' => ∃ ay0 : Option Addr, ∃ ny0 : Nat, ∃ cy0 : Nat, e = .returned (.slice ay0 ny0 cy0) ∧ St B w0 (L) w' ∧ Bx L ib1 ay0 ny0 cy0 r := by
  refine W.enter 9 Tryd.func33 rfl rfl rfl ?_
  unfold lethelaw03_short at hR
  have eb1 := hb1.hl; subst eb1
  refine W.seq_k fun K2 hK2 => ?_
  refine W.regionT [(0, true)] (by kernel_rfl) ?_
  refine Plan.assign_slice rfl rfl ?_
  refine Plan.nil ?_
  refine hK2 _ _ ?_; clear hK2
  refine W.seq_k fun K3 hK3 => ?_
  refine W.seq_k fun K4 hK4 => ?_
  refine W.regionT [(0, true), (1, true), (2, true)] (by kernel_rfl) ?_
  refine Plan.move_slice rfl rfl ?_
  refine Plan.len FLaw03.isl22 rfl rfl ?_
  refine Plan.cmpP (a := (((b1.length : Nat) : Int) : Int)) (b := (400 : Int)) (p := 400 < b1.length) rfl rfl rfl rfl icmp_gtN ?_
  refine Plan.nil ?_
  refine hK4 _ _ ?_; clear hK4
  by_cases hc5 : 400 < b1.length
  ·
    replace hR := ifT hR hc5
    refine W.condT (congrArg Value.bool (decide_eq_true hc5)) ?_
    refine W.seq_k fun K6 hK6 => ?_
    refine W.regionT [(0, true), (1, true), (2, true)] (by kernel_rfl) ?_
    refine Plan.move_slice rfl rfl ?_
    obtain ⟨hc7, hR⟩ := hR
    refine Plan.slV (lo := 0) (hi := 400) hb1 FLaw03.sl22 rfl rfl rfl ⟨_, rfl⟩ hc7 fun a8 c8 hv8 => ?_
    refine Plan.assign_slice rfl rfl ?_
    refine Plan.nil ?_
    refine hK6 _ _ ?_; clear hK6
    refine W.ret (thenR_ret (finR_ret ?_))
    subst r
    refine RetOk.mk (.tmp_slice rfl .nil) ?_
    exact ⟨a8, (seg b1 0 400).length, c8, rfl, HST, hv8⟩
  ·
    replace hR := ifF hR hc5
    refine W.condF (congrArg Value.bool (decide_eq_false hc5)) ?_
    refine W.skip ?_
    refine hK3 _ _ ?_; clear hK3
    refine W.seq_k fun K9 hK9 => ?_
    refine W.regionT [(0, true), (1, true)] (by kernel_rfl) ?_
    refine Plan.move_slice rfl rfl ?_
    refine Plan.assign_slice rfl rfl ?_
    refine Plan.nil ?_
    refine hK9 _ _ ?_; clear hK9
    refine W.ret (finR_ret ?_)
    subst r
    refine RetOk.mk (.tmp_slice rfl .nil) ?_
    exact ⟨ab1, b1.length, cb1, rfl, HST, hb1⟩


set_option maxRecDepth 8000 in
set_option maxHeartbeats 1000000 in
theorem lethelaw03_Room_ok {B : Nat} {w0 w : World} {L : List Rg} {b1 : List Byte} {ab1 : Option Addr} {nb1 cb1 ib1 : Nat} (hb1 : Bx L ib1 ab1 nb1 cb1 b1) {r : (List Byte)} (hR : lethelaw03_Room b1 r) (HST : St B w0 (L) w) :
    Calls Tryd.prog 57 #[.slice ab1 nb1 cb1] w fun e w' => ∃ ay0 : Option Addr, ∃ py0 : Option Nat, ∃ ny0 : Nat, ∃ cy0 : Nat, ∃ Fy0 : Nat → Byte, e = .returned (.slice ay0 ny0 cy0) ∧ St B w0 (⟨py0, 0, cy0, fun q => VU .u8 (Fy0 q), true⟩ :: L) w' ∧ Ow ay0 py0 ny0 cy0 Fy0 r := by
  refine W.enter 7 Tryd.func57 rfl rfl rfl ?_
  unfold lethelaw03_Room at hR
  have eb1 := hb1.hl; subst eb1
  refine W.seq_k fun K2 hK2 => ?_
  refine W.regionT [(0, true)] (by kernel_rfl) ?_
  refine Plan.assign_slice rfl rfl ?_
  refine Plan.nil ?_
  refine hK2 _ _ ?_; clear hK2
  refine W.seq_k fun K3 hK3 => ?_
  refine W.regionT [(0, true), (1, false), (2, false), (3, false), (4, true)] (by kernel_rfl) ?_
  refine Plan.move_slice rfl rfl ?_
  have h4 := HST.nilR
  obtain ⟨hc6, hR⟩ := hR
  refine Plan.appendO (X := ([] : List Byte)) (Y := b1) h4 0 Ow.nil FLaw03.el22 FLaw03.sl22 rfl rfl rfl rfl (hb1.app [_]) hc6 (fun _ => EffO.keep PIn.nil) fun a5 pb5 cap5 F5 w5 ho5 h5 => ?_
  simp only [List.cons_append, List.nil_append, List.set_cons_zero, List.set_cons_succ] at h5
  refine Plan.buildSlice h5 (ps := [(3, fun q => VU .u8 (lit ([209#8, 210#8, 211#8] : List Byte) q))]) FLaw03.slu22 FLaw03.sz5 FLaw03.zv5 (by decide) (by decide) rfl rfl (by kernel_rfl) (EffO.keep PIn.nil) fun b7 w7 hb7 h7 => ?_
  simp only [rngs, List.cons_append, List.nil_append] at h7
  have ho7 : Ow (some ⟨b7, 0, none⟩) (some b7) ([209#8, 210#8, 211#8] : List Byte).length 3 (lit ([209#8, 210#8, 211#8] : List Byte)) ([209#8, 210#8, 211#8] : List Byte) := ⟨.inr ⟨b7, rfl, rfl⟩, Nat.le_refl _, rfl, fun q _ => rfl⟩
  obtain ⟨hc9, hR⟩ := hR
  refine Plan.appendO (X := (([] : List Byte) ++ b1)) (Y := ([209#8, 210#8, 211#8] : List Byte)) h7 1 ho5 FLaw03.el22 FLaw03.sl22 rfl rfl rfl rfl (ho7.bx 0 rfl) hc9 (fun _ => EffO.keep PIn.nil) fun a8 pb8 cap8 F8 w8 ho8 h8 => ?_
  simp only [List.cons_append, List.nil_append, List.set_cons_zero, List.set_cons_succ] at h8
  refine Plan.assign_slice rfl rfl ?_
  refine Plan.nil ?_
  refine hK3 _ _ ?_; clear hK3
  refine W.ret (finR_ret ?_)
  have h10 := St.pickT (C := [_, _]) h8 [1] (by decide)
  simp only [pick, List.filterMap_cons, List.filterMap_nil, List.getElem?_cons_zero, List.getElem?_cons_succ, List.cons_append, List.nil_append] at h10
  subst r
  refine RetOk.mk (.tmp_slice rfl .nil) ?_
  exact ⟨a8, pb8, ((([] : List Byte) ++ b1) ++ ([209#8, 210#8, 211#8] : List Byte)).length, cap8, F8, rfl, h10, ho8⟩


set_option maxRecDepth 8000 in
set_option maxHeartbeats 1000000 in
theorem lethelaw03_Eq_ok {B : Nat} {w0 w : World} {L : List Rg} {a1 : List Byte} {aa1 : Option Addr} {na1 ca1 ia1 : Nat} (ha1 : Bx L ia1 aa1 na1 ca1 a1) {b2 : List Byte} {ab2 : Option Addr} {nb2 cb2 ib2 : Nat} (hb2 : Bx L ib2 ab2 nb2 cb2 b2) {r : Bool} (hR : lethelaw03_Eq a1 b2 r) (HST : St B w0 (L) w) :
    Calls Tryd.prog 41 #[.slice aa1 na1 ca1, .slice ab2 nb2 cb2] w fun e w' => e = .returned (.bool r) ∧ St B w0 (L) w' := by
  refine W.enter 10 Tryd.func41 rfl rfl rfl ?_
  unfold lethelaw03_Eq at hR
  have ea1 := ha1.hl; subst ea1
  have eb2 := hb2.hl; subst eb2
  refine W.seq_k fun K3 hK3 => ?_
  refine W.regionT [(0, true)] (by kernel_rfl) ?_
  refine Plan.assign_bool rfl rfl ?_
  refine Plan.nil ?_
  refine hK3 _ _ ?_; clear hK3
  refine W.seq_k fun K4 hK4 => ?_
  refine W.regionT [(0, true), (1, true), (2, true), (3, true), (4, true), (5, true)] (by kernel_rfl) ?_
  refine Plan.move_slice rfl rfl ?_
  refine Plan.toStrV HST ha1 FLaw03.slu22 FLaw03.u5 FLaw03.str9 rfl rfl fun r5 hr5 => ?_
  replace hr5 := or_un [] hr5
  refine Plan.move_slice rfl rfl ?_
  refine Plan.toStrV HST hb2 FLaw03.slu22 FLaw03.u5 FLaw03.str9 rfl rfl fun r6 hr6 => ?_
  replace hr6 := or_un [] hr6
  refine Plan.eqStrV (v := decide (a1 = b2)) rfl rfl rfl rfl ?_
  refine Plan.assign_bool rfl rfl ?_
  refine Plan.nil ?_
  refine hK4 _ _ ?_; clear hK4
  refine W.ret (finR_ret ?_)
  subst r
  refine RetOk.mk (.tmp_bool rfl .nil) ?_
  exact ⟨rfl, HST⟩


set_option maxRecDepth 8000 in
set_option maxHeartbeats 1000000 in
theorem lethelaw03_Book_Note_ok {B : Nat} {w0 w : World} {L : List Rg} {LP : List Rg} (hLP : ∀ r ∈ LP, r ∈ L) {bb1 : Nat} {bLists2 : List (List Byte)} {abLists2 : Option Addr} {pbLists2 : Option Nat} {nbLists2 cbLists2 : Nat} {FbLists2 : Nat → Value} (hbLists2 : LO (D22.at LP) [] abLists2 pbLists2 nbLists2 cbLists2 FbLists2 bLists2) {bWant3 : List (List Byte)} {abWant3 : Option Addr} {pbWant3 : Option Nat} {nbWant3 cbWant3 : Nat} {FbWant3 : Nat → Value} (hbWant3 : LO (D22.at LP) [] abWant3 pbWant3 nbWant3 cbWant3 FbWant3 bWant3) {bKeys4 : List (List (Nat → BitVec 8))} {abKeys4 : Option Addr} {pbKeys4 : Option Nat} {nbKeys4 cbKeys4 : Nat} {FbKeys4 : Nat → Value} (hbKeys4 : LO (D62.at LP) [] abKeys4 pbKeys4 nbKeys4 cbKeys4 FbKeys4 bKeys4) {bWantK5 : List (List (Nat → BitVec 8))} {abWantK5 : Option Addr} {pbWantK5 : Option Nat} {nbWantK5 cbWantK5 : Nat} {FbWantK5 : Nat → Value} (hbWantK5 : LO (D62.at LP) [] abWantK5 pbWantK5 nbWantK5 cbWantK5 FbWantK5 bWantK5) {l_6 : List Byte} {al_6 : Option Addr} {pl_6 : Option Nat} {nl_6 cl_6 : Nat} {Fl_6 : Nat → Byte} (hl_6 : Ow al_6 pl_6 nl_6 cl_6 Fl_6 l_6) {r : ((List (List Byte)) × (List (List Byte)) × (List (List (Nat → BitVec 8))) × (List (List (Nat → BitVec 8))))} (hR : lethelaw03_Book_Note bLists2 bWant3 bKeys4 bWantK5 l_6 r) (HST : St B w0 (⟨some bb1, 0, 1, fun _ => .slice abLists2 nbLists2 cbLists2, true⟩ :: ⟨pbLists2, 0, cbLists2 * 1, FbLists2, true⟩ :: ⟨some bb1, 1, 1, fun _ => .slice abWant3 nbWant3 cbWant3, true⟩ :: ⟨pbWant3, 0, cbWant3 * 1, FbWant3, true⟩ :: ⟨some bb1, 2, 1, fun _ => .slice abKeys4 nbKeys4 cbKeys4, true⟩ :: ⟨pbKeys4, 0, cbKeys4 * 1, FbKeys4, true⟩ :: ⟨some bb1, 3, 1, fun _ => .slice abWantK5 nbWantK5 cbWantK5, true⟩ :: ⟨pbWantK5, 0, cbWantK5 * 1, FbWantK5, true⟩ :: ⟨pl_6, 0, cl_6, fun q => VU .u8 (Fl_6 q), true⟩ :: L) w) :
    Calls Tryd.prog 76 #[.pointer (some ⟨bb1, 0, none⟩), .slice al_6 nl_6 cl_6] w fun e w' => ∃ C : List Rg, ∃ aqbLists2 : Option Addr, ∃ pqbLists2 : Option Nat, ∃ nqbLists2 : Nat, ∃ cqbLists2 : Nat, ∃ FqbLists2 : Nat → Value, ∃ aqbWant3 : Option Addr, ∃ pqbWant3 : Option Nat, ∃ nqbWant3 : Nat, ∃ cqbWant3 : Nat, ∃ FqbWant3 : Nat → Value, ∃ aqbKeys4 : Option Addr, ∃ pqbKeys4 : Option Nat, ∃ nqbKeys4 : Nat, ∃ cqbKeys4 : Nat, ∃ FqbKeys4 : Nat → Value, ∃ aqbWantK5 : Option Addr, ∃ pqbWantK5 : Option Nat, ∃ nqbWantK5 : Nat, ∃ cqbWantK5 : Nat, ∃ FqbWantK5 : Nat → Value, e = .returned (.tuple #[]) ∧ St B w0 (⟨some bb1, 0, 1, fun _ => .slice aqbLists2 nqbLists2 cqbLists2, true⟩ :: ⟨pqbLists2, 0, cqbLists2 * 1, FqbLists2, true⟩ :: ⟨some bb1, 1, 1, fun _ => .slice aqbWant3 nqbWant3 cqbWant3, true⟩ :: ⟨pqbWant3, 0, cqbWant3 * 1, FqbWant3, true⟩ :: ⟨some bb1, 2, 1, fun _ => .slice aqbKeys4 nqbKeys4 cqbKeys4, true⟩ :: ⟨pqbKeys4, 0, cqbKeys4 * 1, FqbKeys4, true⟩ :: ⟨some bb1, 3, 1, fun _ => .slice aqbWantK5 nqbWantK5 cqbWantK5, true⟩ :: ⟨pqbWantK5, 0, cqbWantK5 * 1, FqbWantK5, true⟩ :: (C ++ L)) w' ∧ LO (D22.at (C ++ LP)) [] aqbLists2 pqbLists2 nqbLists2 cqbLists2 FqbLists2 r.1 ∧ LO (D22.at (C ++ LP)) [] aqbWant3 pqbWant3 nqbWant3 cqbWant3 FqbWant3 r.2.1 ∧ LO (D62.at (C ++ LP)) [] aqbKeys4 pqbKeys4 nqbKeys4 cqbKeys4 FqbKeys4 r.2.2.1 ∧ LO (D62.at (C ++ LP)) [] aqbWantK5 pqbWantK5 nqbWantK5 cqbWantK5 FqbWantK5 r.2.2.2 := by
  refine W.enter 71 Tryd.func76 rfl rfl rfl ?_
  unfold lethelaw03_Book_Note at hR
  have hFr : Fr2 L LP L LP := Fr2.refl _ _
  have ebLists2 := hbLists2.hl; subst ebLists2
  have ebWant3 := hbWant3.hl; subst ebWant3
  have ebKeys4 := hbKeys4.hl; subst ebKeys4
  have ebWantK5 := hbWantK5.hl; subst ebWantK5
  have el_6 := hl_6.hl; subst el_6
  refine W.seq_k fun K7 hK7 => ?_
  refine W.regionT [(0, true), (1, true), (2, true), (3, true), (4, true), (5, true), (6, true), (7, true)] (by kernel_rfl) ?_
  refine Plan.move_ptr rfl rfl ?_
  refine Plan.nilCheck rfl rfl ?_
  refine Plan.fieldAddr0 FLaw03.fld78_0 rfl rfl ?_
  refine Plan.load0 HST 0 rfl rfl rfl (by omega) FLaw03.sc75 ?_
  refine Plan.len FLaw03.isl75 rfl rfl ?_
  obtain ⟨hc8, hR⟩ := hR
  refine Plan.mulN (a := bLists2.length) (b := 29) rfl rfl rfl (by omega) ?_
  obtain ⟨hc9, hR⟩ := hR
  refine Plan.addN (a := (bLists2.length * 29)) (b := 7) rfl rfl rfl (by omega) ?_
  refine Plan.assign_int rfl rfl ?_
  refine Plan.nil ?_
  refine hK7 _ _ ?_; clear hK7
  refine W.seq_k fun K10 hK10 => ?_
  refine W.regionT [(0, true)] (by kernel_rfl) ?_
  refine Plan.assign_slice rfl rfl ?_
  refine Plan.nil ?_
  refine hK10 _ _ ?_; clear hK10
  refine W.seq_k fun K11 hK11 => ?_
  refine W.seq_k fun K12 hK12 => ?_
  refine W.regionT [(0, true)] (by kernel_rfl) ?_
  refine Plan.assign_int rfl rfl ?_
  refine Plan.nil ?_
  refine hK12 _ _ ?_; clear hK12
  have h53 := HST.nilR
  obtain ⟨l_50, want51, hI52, hR052⟩ := hR
  refine W.cutN (fun e w => ∃ y_l_50 : List Byte, ∃ y_want51 : List Byte, (l_50, want51) = (y_l_50, y_want51) ∧ ∃ al_50 : Option Addr, ∃ pl_50 : Option Nat, ∃ cl_50 : Nat, ∃ Fl_50 : Nat → Byte, ∃ awant51 : Option Addr, ∃ pwant51 : Option Nat, ∃ cwant51 : Nat, ∃ Fwant51 : Nat → Byte, EnvHas e [(0, .pointer (some ⟨bb1, 0, none⟩)), (1, .slice al_50 l_6.length cl_50), (4, VN ((bLists2.length * 29) + 7)), (5, .slice awant51 y_want51.length cwant51)] ∧ St B w0 (⟨pl_50, 0, cl_50, fun q => VU .u8 (Fl_50 q), true⟩ :: ⟨pwant51, 0, cwant51, fun q => VU .u8 (Fwant51 q), true⟩ :: ⟨some bb1, 0, 1, fun _ => .slice abLists2 bLists2.length cbLists2, true⟩ :: ⟨pbLists2, 0, cbLists2 * 1, FbLists2, true⟩ :: ⟨some bb1, 1, 1, fun _ => .slice abWant3 bWant3.length cbWant3, true⟩ :: ⟨pbWant3, 0, cbWant3 * 1, FbWant3, true⟩ :: ⟨some bb1, 2, 1, fun _ => .slice abKeys4 bKeys4.length cbKeys4, true⟩ :: ⟨pbKeys4, 0, cbKeys4 * 1, FbKeys4, true⟩ :: ⟨some bb1, 3, 1, fun _ => .slice abWantK5 bWantK5.length cbWantK5, true⟩ :: ⟨pbWantK5, 0, cbWantK5 * 1, FbWantK5, true⟩ :: L) w ∧ Ow al_50 pl_50 l_6.length cl_50 Fl_50 y_l_50 ∧ Ow awant51 pwant51 y_want51.length cwant51 Fwant51 y_want51) ?_ ?_
  ·
    refine W.block ?_
    have h54 := St.pickT (C := [_, _, _, _, _, _, _, _, _, _]) h53 [9, 0, 1, 2, 3, 4, 5, 6, 7, 8] (by decide)
    simp only [pick, List.filterMap_cons, List.filterMap_nil, List.getElem?_cons_zero, List.getElem?_cons_succ, List.cons_append, List.nil_append] at h54
    refine W.iter hI52 (fun (s52 : ((List Byte) × (List Byte) × Nat)) e w => ∃ al_46 : Option Addr, ∃ pl_46 : Option Nat, ∃ cl_46 : Nat, ∃ Fl_46 : Nat → Byte, ∃ awant47 : Option Addr, ∃ pwant47 : Option Nat, ∃ cwant47 : Nat, ∃ Fwant47 : Nat → Byte, EnvHas e [(0, .pointer (some ⟨bb1, 0, none⟩)), (1, .slice al_46 l_6.length cl_46), (4, VN ((bLists2.length * 29) + 7)), (5, .slice awant47 s52.2.1.length cwant47), (6, VN s52.2.2)] ∧ St B w0 (⟨pl_46, 0, cl_46, fun q => VU .u8 (Fl_46 q), true⟩ :: ⟨pwant47, 0, cwant47, fun q => VU .u8 (Fwant47 q), true⟩ :: ⟨some bb1, 0, 1, fun _ => .slice abLists2 bLists2.length cbLists2, true⟩ :: ⟨pbLists2, 0, cbLists2 * 1, FbLists2, true⟩ :: ⟨some bb1, 1, 1, fun _ => .slice abWant3 bWant3.length cbWant3, true⟩ :: ⟨pbWant3, 0, cbWant3 * 1, FbWant3, true⟩ :: ⟨some bb1, 2, 1, fun _ => .slice abKeys4 bKeys4.length cbKeys4, true⟩ :: ⟨pbKeys4, 0, cbKeys4 * 1, FbKeys4, true⟩ :: ⟨some bb1, 3, 1, fun _ => .slice abWantK5 bWantK5.length cbWantK5, true⟩ :: ⟨pbWantK5, 0, cbWantK5 * 1, FbWantK5, true⟩ :: L) w ∧ Ow al_46 pl_46 l_6.length cl_46 Fl_46 s52.1 ∧ Ow awant47 pwant47 s52.2.1.length cwant47 Fwant47 s52.2.1) ⟨al_6, pl_6, cl_6, Fl_6, none, none, 0, (fun _ => 0#8), (EnvHas.cons rfl (EnvHas.cons rfl (EnvHas.cons rfl (EnvHas.cons rfl (EnvHas.cons rfl EnvHas.nil))))), h54, hl_6, Ow.nil⟩ ?_
    rintro ⟨l_46, want47, i_49⟩ o52 hR hx52 ev55 wl55 ⟨al_46, pl_46, cl_46, Fl_46, awant47, pwant47, cwant47, Fwant47, he55, h55, hl_46, hwant47⟩
    obtain ⟨ev55, rfl⟩ := he55.open
    unfold lethelaw03_Book_Note_l0 at hR
    refine W.seq_k fun K56 hK56 => ?_
    refine W.seq_k fun K57 hK57 => ?_
    refine W.regionT [(0, true), (1, true), (2, true), (3, true)] (by kernel_rfl) ?_
    refine Plan.move_int rfl rfl ?_
    refine Plan.move_slice rfl rfl ?_
    refine Plan.len FLaw03.isl22 rfl rfl ?_
    refine Plan.cmpP (a := (((i_49 : Nat) : Int) : Int)) (b := (((l_6.length : Nat) : Int) : Int)) (p := i_49 < l_6.length) rfl rfl rfl rfl icmp_ltN ?_
    refine Plan.nil ?_
    refine hK57 _ _ ?_; clear hK57
    by_cases hc58 : i_49 < l_6.length
    ·
      replace hR := ifT hR hc58
      refine W.condT (congrArg Value.bool (decide_eq_true hc58)) ?_
      refine W.skip ?_
      refine hK56 _ _ ?_; clear hK56
      refine W.seq_k fun K59 hK59 => ?_
      refine W.block ?_
      refine W.seq_k fun K60 hK60 => ?_
      refine W.regionT [(0, true), (1, true), (2, true), (3, true), (4, true), (5, true), (6, true), (7, false)] (by kernel_rfl) ?_
      refine Plan.move_slice rfl rfl ?_
      refine Plan.move_int rfl rfl ?_
      refine Plan.move_int rfl rfl ?_
      refine Plan.move_int rfl rfl ?_
      obtain ⟨hc61, hR⟩ := hR
      refine Plan.addN (a := ((bLists2.length * 29) + 7)) (b := i_49) rfl rfl rfl (by omega) ?_
      refine Plan.convNU .u8 (a := (((bLists2.length * 29) + 7) + i_49)) FLaw03.u5 FLaw03.some3 rfl rfl ?_
      obtain ⟨hc62, hR⟩ := hR
      refine Plan.idxVS (j := i_49) h55 (hl_46.bx 0 rfl) FLaw03.sl22 rfl rfl rfl hc62 ?_
      refine Plan.storeO (j := i_49) (Y := (BitVec.ofNat 8 (((bLists2.length * 29) + 7) + i_49))) h55 0 hl_46 rfl rfl rfl rfl hc62 FLaw03.sz5 rfl fun w63 F63 ho63 h63 => ?_
      simp only [List.cons_append, List.nil_append, List.set_cons_zero, List.set_cons_succ] at h63
      have e63 : (l_46.set i_49 (BitVec.ofNat 8 (((bLists2.length * 29) + 7) + i_49))).length = l_46.length := List.length_set
      refine Plan.nil ?_
      refine hK60 _ _ ?_; clear hK60
      refine W.regionT [(0, true), (1, true), (2, true), (3, true), (4, true), (5, false), (6, false), (7, true)] (by kernel_rfl) ?_
      refine Plan.move_slice rfl rfl ?_
      refine Plan.move_slice rfl rfl ?_
      refine Plan.move_int rfl rfl ?_
      obtain ⟨hc64, hR⟩ := hR
      refine Plan.idxVS (j := i_49) h63 ((show Ow _ _ l_6.length _ _ _ from ho63).bx 0 rfl) FLaw03.sl22 rfl rfl rfl hc64 ?_
      refine Plan.loadV (j := i_49) h63 ((show Ow _ _ l_6.length _ _ _ from ho63).bx 0 rfl) rfl rfl hc64 FLaw03.sc5 fun r65 hr65 => ?_
      refine Plan.buildSlice h63 (ps := [(1, fun q => VU .u8 (lit ([(lit (l_46.set i_49 (BitVec.ofNat 8 (((bLists2.length * 29) + 7) + i_49))) i_49)] : List Byte) q))]) FLaw03.slu22 FLaw03.sz5 FLaw03.zv5 (by decide) (by decide) rfl rfl rfl (EffO.wait rfl) fun b66 w66 hb66 h66 => ?_
      simp only [rngs, List.cons_append, List.nil_append] at h66
      have ho66 : Ow (some ⟨b66, 0, none⟩) (some b66) ([(lit (l_46.set i_49 (BitVec.ofNat 8 (((bLists2.length * 29) + 7) + i_49))) i_49)] : List Byte).length 1 (lit ([(lit (l_46.set i_49 (BitVec.ofNat 8 (((bLists2.length * 29) + 7) + i_49))) i_49)] : List Byte)) ([(lit (l_46.set i_49 (BitVec.ofNat 8 (((bLists2.length * 29) + 7) + i_49))) i_49)] : List Byte) := ⟨.inr ⟨b66, rfl, rfl⟩, Nat.le_refl _, rfl, fun q _ => rfl⟩
      obtain ⟨hc68, hR⟩ := hR
      refine Plan.appendO (X := want47) (Y := ([(lit (l_46.set i_49 (BitVec.ofNat 8 (((bLists2.length * 29) + 7) + i_49))) i_49)] : List Byte)) h66 2 hwant47 FLaw03.el22 FLaw03.sl22 rfl rfl rfl rfl (ho66.bx 0 rfl) hc68 (fun _ => EffO.keep PIn.nil) fun a67 pb67 cap67 F67 w67 ho67 h67 => ?_
      simp only [List.cons_append, List.nil_append, List.set_cons_zero, List.set_cons_succ] at h67
      refine Plan.assign_slice rfl rfl ?_
      refine Plan.nil ?_
      refine blockR_norm ?_
      refine hK59 _ _ ?_; clear hK59
      refine W.regionT [(0, true), (1, true), (2, true)] (by kernel_rfl) ?_
      refine Plan.move_int rfl rfl ?_
      obtain ⟨hc69, hR⟩ := hR
      refine Plan.addN (a := i_49) (b := 1) rfl rfl rfl (by omega) ?_
      refine Plan.assign_int rfl rfl ?_
      refine Plan.nil ?_
      have h70 := St.pickT (C := [_, _, _, _, _, _, _, _, _, _, _]) h67 [1, 2, 3, 4, 5, 6, 7, 8, 9, 10] (by decide)
      simp only [pick, List.filterMap_cons, List.filterMap_nil, List.getElem?_cons_zero, List.getElem?_cons_succ, List.cons_append, List.nil_append] at h70
      exact iterR_norm ⟨_, hR, al_46, pl_46, cl_46, F63, a67, pb67, cap67, F67, (EnvHas.cons rfl (EnvHas.cons rfl (EnvHas.cons rfl (EnvHas.cons rfl (EnvHas.cons rfl EnvHas.nil))))), h70, (show Ow _ _ l_6.length _ _ _ from ho63), ho67⟩
    ·
      replace hR := ifF hR hc58
      refine W.condF (congrArg Value.bool (decide_eq_false hc58)) ?_
      refine W.exit (thenR_exit (iterR_exit (blockR_here ?_)))
      exact ⟨l_46, want47, (hx52 _ hR).symm, al_46, pl_46, cl_46, Fl_46, awant47, pwant47, cwant47, Fwant47, (EnvHas.cons rfl (EnvHas.cons rfl (EnvHas.cons rfl (EnvHas.cons rfl EnvHas.nil)))), h55, hl_46, hwant47⟩
  ·
    rintro ev71 wl71 ⟨y_l_50, y_want51, hy71, al_50, pl_50, cl_50, Fl_50, awant51, pwant51, cwant51, Fwant51, he71, h71, hl_50, hwant51⟩
    obtain ⟨ev71, rfl⟩ := he71.open
    cases hy71
    replace hR := hR052
    refine hK11 _ _ ?_; clear hK11
    refine W.seq_k fun K72 hK72 => ?_
    refine W.regionT [(0, true), (1, true), (2, true), (3, true), (4, true)] (by kernel_rfl) ?_
    refine Plan.move_int rfl rfl ?_
    obtain ⟨hc73, hR⟩ := hR
    refine Plan.mulN (a := ((bLists2.length * 29) + 7)) (b := 3) rfl rfl rfl (by omega) ?_
    obtain ⟨hc74, hR⟩ := hR
    refine Plan.addN (a := (((bLists2.length * 29) + 7) * 3)) (b := 1) rfl rfl rfl (by omega) ?_
    refine Plan.convNU .u8 (a := ((((bLists2.length * 29) + 7) * 3) + 1)) FLaw03.u5 FLaw03.some3 rfl rfl ?_
    refine Plan.assign_int rfl rfl ?_
    refine Plan.nil ?_
    refine hK72 _ _ ?_; clear hK72
    refine W.seq_k fun K75 hK75 => ?_
    refine W.regionD FLaw03.mixed [(0, true), (1, true), (2, true), (3, true), (4, true), (5, true), (6, true), (7, true), (8, true), (9, true), (10, false), (11, false), (12, false), (13, false), (14, true), (15, true), (16, false)] (by kernel_rfl) ?_
    have h76 := h71.drew
    refine Plan.move_ptr rfl rfl ?_
    refine Plan.move_ptr rfl rfl ?_
    refine Plan.nilCheck rfl rfl ?_
    refine Plan.fieldAddr0 FLaw03.fld78_0 rfl rfl ?_
    refine Plan.load0 h76 2 rfl rfl rfl (by omega) FLaw03.sc75 ?_
    refine Plan.move_slice rfl rfl ?_
    refine Plan.move_slice rfl rfl ?_
    refine Plan.move_int rfl rfl ?_
    refine Plan.move_int rfl rfl ?_
    refine Plan.move_int rfl rfl ?_
    refine Plan.buildSlice h76 (ps := [(3, fun q => VU .u8 (lit ([(BitVec.ofNat 8 ((((bLists2.length * 29) + 7) * 3) + 1)), (BitVec.ofNat 8 ((((bLists2.length * 29) + 7) * 3) + 1)), (BitVec.ofNat 8 ((((bLists2.length * 29) + 7) * 3) + 1))] : List Byte) q))]) FLaw03.slu22 FLaw03.sz5 FLaw03.zv5 (by decide) (by decide) rfl rfl rfl (EffO.keep (PIn.cons 2 rfl PIn.nil)) fun b77 w77 hb77 h77 => ?_
    simp only [rngs, List.cons_append, List.nil_append] at h77
    have ho77 : Ow (some ⟨b77, 0, none⟩) (some b77) ([(BitVec.ofNat 8 ((((bLists2.length * 29) + 7) * 3) + 1)), (BitVec.ofNat 8 ((((bLists2.length * 29) + 7) * 3) + 1)), (BitVec.ofNat 8 ((((bLists2.length * 29) + 7) * 3) + 1))] : List Byte).length 3 (lit ([(BitVec.ofNat 8 ((((bLists2.length * 29) + 7) * 3) + 1)), (BitVec.ofNat 8 ((((bLists2.length * 29) + 7) * 3) + 1)), (BitVec.ofNat 8 ((((bLists2.length * 29) + 7) * 3) + 1))] : List Byte)) ([(BitVec.ofNat 8 ((((bLists2.length * 29) + 7) * 3) + 1)), (BitVec.ofNat 8 ((((bLists2.length * 29) + 7) * 3) + 1)), (BitVec.ofNat 8 ((((bLists2.length * 29) + 7) * 3) + 1))] : List Byte) := ⟨.inr ⟨b77, rfl, rfl⟩, Nat.le_refl _, rfl, fun q _ => rfl⟩
    obtain ⟨hc79, hR⟩ := hR
    refine Plan.appendOK (X := l_50) (Y := ([(BitVec.ofNat 8 ((((bLists2.length * 29) + 7) * 3) + 1)), (BitVec.ofNat 8 ((((bLists2.length * 29) + 7) * 3) + 1)), (BitVec.ofNat 8 ((((bLists2.length * 29) + 7) * 3) + 1))] : List Byte)) h77 1 hl_50 FLaw03.el22 FLaw03.sl22 rfl rfl rfl rfl (ho77.bx 0 rfl) hc79 (fun _ _ => EffO.keep (PIn.cons 4 rfl PIn.nil)) fun a78 pb78 cap78 F78 r78 iz78 w78 ho78 hi78 hv78 h78 => ?_
    simp only [List.cons_append, List.nil_append, List.set_cons_zero, List.set_cons_succ] at h78 hv78
    have h82 := St.pickT (C := [_, _, _, _, _, _, _, _, _, _, _, _]) h78 [1, 3, 4, 5, 6, 7, 8, 9, 10, 11, 0, 2] (by decide)
    simp only [pick, List.filterMap_cons, List.filterMap_nil, List.getElem?_cons_zero, List.getElem?_cons_succ, List.cons_append, List.nil_append] at h82
    obtain ⟨L, hL83⟩ : ∃ X, X = [⟨pb78, 0, cap78, fun q => VU .u8 (F78 q), true⟩, r78] ++ L := ⟨_, rfl⟩
    obtain ⟨LP, hQ83⟩ : ∃ X, X = [⟨pb78, 0, cap78, fun q => VU .u8 (F78 q), true⟩, r78] ++ LP := ⟨_, rfl⟩
    replace hLP : ∀ r ∈ LP, r ∈ L := by rw [hQ83, hL83]; exact frMemGrow hLP
    have h83 := St.re (N := [_, _, _, _, _, _, _, _, _, _]) hL83 h82
    simp only [List.cons_append, List.nil_append] at h83
    replace hFr : Fr2 _ _ L LP := hFr.step hL83 hQ83
    have ho84 : LO (D22.at LP) [] abLists2 pbLists2 (bLists2).length cbLists2 FbLists2 bLists2 := by rw [hQ83]; exact LO.grow D22_lifts (fun r hr => List.mem_append_right _ hr) hbLists2
    have ho85 : LO (D22.at LP) [] abWant3 pbWant3 (bWant3).length cbWant3 FbWant3 bWant3 := by rw [hQ83]; exact LO.grow D22_lifts (fun r hr => List.mem_append_right _ hr) hbWant3
    have ho86 : LO (D62.at LP) [] abKeys4 pbKeys4 (bKeys4).length cbKeys4 FbKeys4 bKeys4 := by rw [hQ83]; exact LO.grow D62_lifts (fun r hr => List.mem_append_right _ hr) hbKeys4
    have ho87 : LO (D62.at LP) [] abWantK5 pbWantK5 (bWantK5).length cbWantK5 FbWantK5 bWantK5 := by rw [hQ83]; exact LO.grow D62_lifts (fun r hr => List.mem_append_right _ hr) hbWantK5
    obtain ⟨ix88, hv88⟩ : ∃ i, Bx L i al_50 l_6.length cl_50 l_50 := ⟨_, by rw [hL83]; exact (Bx.two (L' := [_, _] ++ _) (j1 := 0) (j2 := 1) hv78 hi78 rfl rfl rfl rfl)⟩
    have hp88 : ∃ i, Bx LP i al_50 l_6.length cl_50 l_50 := ⟨_, by rw [hQ83]; exact (Bx.two (L' := [_, _] ++ _) (j1 := 0) (j2 := 1) hv78 hi78 rfl rfl rfl rfl)⟩
    obtain ⟨ix89, hv89⟩ : ∃ i, Bx L i a78 ((l_50 ++ ([(BitVec.ofNat 8 ((((bLists2.length * 29) + 7) * 3) + 1)), (BitVec.ofNat 8 ((((bLists2.length * 29) + 7) * 3) + 1)), (BitVec.ofNat 8 ((((bLists2.length * 29) + 7) * 3) + 1))] : List Byte)).length) cap78 (l_50 ++ ([(BitVec.ofNat 8 ((((bLists2.length * 29) + 7) * 3) + 1)), (BitVec.ofNat 8 ((((bLists2.length * 29) + 7) * 3) + 1)), (BitVec.ofNat 8 ((((bLists2.length * 29) + 7) * 3) + 1))] : List Byte)) := ⟨_, by rw [hL83]; exact (ho78.bx 0 rfl)⟩
    have hp89 : ∃ i, Bx LP i a78 ((l_50 ++ ([(BitVec.ofNat 8 ((((bLists2.length * 29) + 7) * 3) + 1)), (BitVec.ofNat 8 ((((bLists2.length * 29) + 7) * 3) + 1)), (BitVec.ofNat 8 ((((bLists2.length * 29) + 7) * 3) + 1))] : List Byte)).length) cap78 (l_50 ++ ([(BitVec.ofNat 8 ((((bLists2.length * 29) + 7) * 3) + 1)), (BitVec.ofNat 8 ((((bLists2.length * 29) + 7) * 3) + 1)), (BitVec.ofNat 8 ((((bLists2.length * 29) + 7) * 3) + 1))] : List Byte)) := ⟨_, by rw [hQ83]; exact (ho78.bx 0 rfl)⟩
    refine Plan.buildLO (D := (D22.at LP)) (sz := 1) h83 [((al_50, l_6.length, cl_50), (l_50 : (List Byte))), ((a78, (l_50 ++ ([(BitVec.ofNat 8 ((((bLists2.length * 29) + 7) * 3) + 1)), (BitVec.ofNat 8 ((((bLists2.length * 29) + 7) * 3) + 1)), (BitVec.ofNat 8 ((((bLists2.length * 29) + 7) * 3) + 1))] : List Byte)).length, cap78), ((l_50 ++ ([(BitVec.ofNat 8 ((((bLists2.length * 29) + 7) * 3) + 1)), (BitVec.ofNat 8 ((((bLists2.length * 29) + 7) * 3) + 1)), (BitVec.ofNat 8 ((((bLists2.length * 29) + 7) * 3) + 1))] : List Byte)) : (List Byte)))] FLaw03.slu75 FLaw03.sz22 FLaw03.zv22 (by decide) (by decide) rfl rfl rfl rfl (by exact (List.forall_mem_cons.2 ⟨hp88, (List.forall_mem_cons.2 ⟨hp89, (fun _ h => nomatch h)⟩)⟩)) (EffO.keep (PIn.cons 2 rfl PIn.nil)) fun b81 w81 F81 hb81 ho81 h81 => ?_
    replace ho81 : LO (D22.at LP) [] (some ⟨b81, 0, none⟩) (some b81) ([l_50, (l_50 ++ ([(BitVec.ofNat 8 ((((bLists2.length * 29) + 7) * 3) + 1)), (BitVec.ofNat 8 ((((bLists2.length * 29) + 7) * 3) + 1)), (BitVec.ofNat 8 ((((bLists2.length * 29) + 7) * 3) + 1))] : List Byte))] : List (List Byte)).length 2 F81 ([l_50, (l_50 ++ ([(BitVec.ofNat 8 ((((bLists2.length * 29) + 7) * 3) + 1)), (BitVec.ofNat 8 ((((bLists2.length * 29) + 7) * 3) + 1)), (BitVec.ofNat 8 ((((bLists2.length * 29) + 7) * 3) + 1))] : List Byte))] : List (List Byte)) := ho81.re (fun _ _ h => h)
    obtain ⟨hc91, hR⟩ := hR
    refine Plan.appendLO (D := (D22.at LP)) (X := bLists2) (Y := ([l_50, (l_50 ++ ([(BitVec.ofNat 8 ((((bLists2.length * 29) + 7) * 3) + 1)), (BitVec.ofNat 8 ((((bLists2.length * 29) + 7) * 3) + 1)), (BitVec.ofNat 8 ((((bLists2.length * 29) + 7) * 3) + 1))] : List Byte))] : List (List Byte))) (sz := 1) h81 (none, 0, 0) ([] : List Byte) 4 ho84 rfl FLaw03.el75 rfl FLaw03.slu75 rfl rfl rfl rfl (LO.lvf EL.at_flat ho81 0 rfl) (fun _ _ h => h) hc91.1 hc91.2 (fun _ => EffO.wait rfl) fun a90 pb90 cap90 F90 w90 ho90 h90 => ?_
    simp only [List.cons_append, List.nil_append, List.set_cons_zero, List.set_cons_succ] at h90
    replace ho90 : LO (D22.at LP) [] a90 pb90 (bLists2 ++ ([l_50, (l_50 ++ ([(BitVec.ofNat 8 ((((bLists2.length * 29) + 7) * 3) + 1)), (BitVec.ofNat 8 ((((bLists2.length * 29) + 7) * 3) + 1)), (BitVec.ofNat 8 ((((bLists2.length * 29) + 7) * 3) + 1))] : List Byte))] : List (List Byte))).length cap90 F90 (bLists2 ++ ([l_50, (l_50 ++ ([(BitVec.ofNat 8 ((((bLists2.length * 29) + 7) * 3) + 1)), (BitVec.ofNat 8 ((((bLists2.length * 29) + 7) * 3) + 1)), (BitVec.ofNat 8 ((((bLists2.length * 29) + 7) * 3) + 1))] : List Byte))] : List (List Byte))) := ho90.re (fun _ _ h => h)
    refine Plan.nilCheck rfl rfl ?_
    refine Plan.fieldAddr0 FLaw03.fld78_0 rfl rfl ?_
    refine Plan.storeC h90 3 rfl rfl rfl rfl rfl FLaw03.sz75 rfl fun w92 h92 => ?_
    simp only [List.cons_append, List.nil_append, List.set_cons_zero, List.set_cons_succ] at h92
    refine Plan.nil ?_
    refine hK75 _ _ ?_; clear hK75
    refine W.regionD FLaw03.mixed [(0, true), (1, true), (2, true), (3, true), (4, true), (5, true), (6, true), (7, true), (8, true), (9, true), (10, false), (11, false), (12, false), (13, false), (14, true), (15, true), (16, false)] (by kernel_rfl) ?_
    have h93 := h92.drew
    refine Plan.move_ptr rfl rfl ?_
    refine Plan.move_ptr rfl rfl ?_
    refine Plan.nilCheck rfl rfl ?_
    refine Plan.fieldAddr 1 FLaw03.fld78_1 rfl rfl ?_
    refine Plan.load0 h93 5 rfl rfl rfl (by omega) FLaw03.sc75 ?_
    refine Plan.move_slice rfl rfl ?_
    refine Plan.move_slice rfl rfl ?_
    refine Plan.move_int rfl rfl ?_
    refine Plan.move_int rfl rfl ?_
    refine Plan.move_int rfl rfl ?_
    refine Plan.buildSlice h93 (ps := [(3, fun q => VU .u8 (lit ([(BitVec.ofNat 8 ((((bLists2.length * 29) + 7) * 3) + 1)), (BitVec.ofNat 8 ((((bLists2.length * 29) + 7) * 3) + 1)), (BitVec.ofNat 8 ((((bLists2.length * 29) + 7) * 3) + 1))] : List Byte) q))]) FLaw03.slu22 FLaw03.sz5 FLaw03.zv5 (by decide) (by decide) rfl rfl rfl (EffO.keep (PIn.cons 5 rfl PIn.nil)) fun b94 w94 hb94 h94 => ?_
    simp only [rngs, List.cons_append, List.nil_append] at h94
    have ho94 : Ow (some ⟨b94, 0, none⟩) (some b94) ([(BitVec.ofNat 8 ((((bLists2.length * 29) + 7) * 3) + 1)), (BitVec.ofNat 8 ((((bLists2.length * 29) + 7) * 3) + 1)), (BitVec.ofNat 8 ((((bLists2.length * 29) + 7) * 3) + 1))] : List Byte).length 3 (lit ([(BitVec.ofNat 8 ((((bLists2.length * 29) + 7) * 3) + 1)), (BitVec.ofNat 8 ((((bLists2.length * 29) + 7) * 3) + 1)), (BitVec.ofNat 8 ((((bLists2.length * 29) + 7) * 3) + 1))] : List Byte)) ([(BitVec.ofNat 8 ((((bLists2.length * 29) + 7) * 3) + 1)), (BitVec.ofNat 8 ((((bLists2.length * 29) + 7) * 3) + 1)), (BitVec.ofNat 8 ((((bLists2.length * 29) + 7) * 3) + 1))] : List Byte) := ⟨.inr ⟨b94, rfl, rfl⟩, Nat.le_refl _, rfl, fun q _ => rfl⟩
    obtain ⟨hc96, hR⟩ := hR
    refine Plan.appendOK (X := want51) (Y := ([(BitVec.ofNat 8 ((((bLists2.length * 29) + 7) * 3) + 1)), (BitVec.ofNat 8 ((((bLists2.length * 29) + 7) * 3) + 1)), (BitVec.ofNat 8 ((((bLists2.length * 29) + 7) * 3) + 1))] : List Byte)) h94 3 hwant51 FLaw03.el22 FLaw03.sl22 rfl rfl rfl rfl (ho94.bx 0 rfl) hc96 (fun _ _ => EffO.keep (PIn.cons 7 rfl PIn.nil)) fun a95 pb95 cap95 F95 r95 iz95 w95 ho95 hi95 hv95 h95 => ?_
    simp only [List.cons_append, List.nil_append, List.set_cons_zero, List.set_cons_succ] at h95 hv95
    have h99 := St.pickT (C := [_, _, _, _, _, _, _, _, _, _, _, _, _]) h95 [1, 2, 3, 5, 6, 7, 8, 9, 10, 11, 12, 0, 4] (by decide)
    simp only [pick, List.filterMap_cons, List.filterMap_nil, List.getElem?_cons_zero, List.getElem?_cons_succ, List.cons_append, List.nil_append] at h99
    obtain ⟨L, hL100⟩ : ∃ X, X = [⟨pb95, 0, cap95, fun q => VU .u8 (F95 q), true⟩, r95] ++ L := ⟨_, rfl⟩
    obtain ⟨LP, hQ100⟩ : ∃ X, X = [⟨pb95, 0, cap95, fun q => VU .u8 (F95 q), true⟩, r95] ++ LP := ⟨_, rfl⟩
    replace hLP : ∀ r ∈ LP, r ∈ L := by rw [hQ100, hL100]; exact frMemGrow hLP
    have h100 := St.re (N := [_, _, _, _, _, _, _, _, _, _, _]) hL100 h99
    simp only [List.cons_append, List.nil_append] at h100
    replace hFr : Fr2 _ _ L LP := hFr.step hL100 hQ100
    obtain ⟨ix101, hv101⟩ : ∃ i, Bx L i al_50 l_6.length cl_50 l_50 := ⟨_, by rw [hL100]; exact hv88.app _⟩
    have hp101 : ∃ i, Bx LP i al_50 l_6.length cl_50 l_50 := by rw [hQ100]; exact ⟨_, hp88.choose_spec.app _⟩
    obtain ⟨ix102, hv102⟩ : ∃ i, Bx L i a78 ((l_50 ++ ([(BitVec.ofNat 8 ((((bLists2.length * 29) + 7) * 3) + 1)), (BitVec.ofNat 8 ((((bLists2.length * 29) + 7) * 3) + 1)), (BitVec.ofNat 8 ((((bLists2.length * 29) + 7) * 3) + 1))] : List Byte)).length) cap78 (l_50 ++ ([(BitVec.ofNat 8 ((((bLists2.length * 29) + 7) * 3) + 1)), (BitVec.ofNat 8 ((((bLists2.length * 29) + 7) * 3) + 1)), (BitVec.ofNat 8 ((((bLists2.length * 29) + 7) * 3) + 1))] : List Byte)) := ⟨_, by rw [hL100]; exact hv89.app _⟩
    have hp102 : ∃ i, Bx LP i a78 ((l_50 ++ ([(BitVec.ofNat 8 ((((bLists2.length * 29) + 7) * 3) + 1)), (BitVec.ofNat 8 ((((bLists2.length * 29) + 7) * 3) + 1)), (BitVec.ofNat 8 ((((bLists2.length * 29) + 7) * 3) + 1))] : List Byte)).length) cap78 (l_50 ++ ([(BitVec.ofNat 8 ((((bLists2.length * 29) + 7) * 3) + 1)), (BitVec.ofNat 8 ((((bLists2.length * 29) + 7) * 3) + 1)), (BitVec.ofNat 8 ((((bLists2.length * 29) + 7) * 3) + 1))] : List Byte)) := by rw [hQ100]; exact ⟨_, hp89.choose_spec.app _⟩
    have ho103 : LO (D22.at LP) [] (some ⟨b81, 0, none⟩) (some b81) (([l_50, (l_50 ++ ([(BitVec.ofNat 8 ((((bLists2.length * 29) + 7) * 3) + 1)), (BitVec.ofNat 8 ((((bLists2.length * 29) + 7) * 3) + 1)), (BitVec.ofNat 8 ((((bLists2.length * 29) + 7) * 3) + 1))] : List Byte))] : List (List Byte))).length 2 F81 ([l_50, (l_50 ++ ([(BitVec.ofNat 8 ((((bLists2.length * 29) + 7) * 3) + 1)), (BitVec.ofNat 8 ((((bLists2.length * 29) + 7) * 3) + 1)), (BitVec.ofNat 8 ((((bLists2.length * 29) + 7) * 3) + 1))] : List Byte))] : List (List Byte)) := by rw [hQ100]; exact LO.grow D22_lifts (fun r hr => List.mem_append_right _ hr) ho81
    have ho104 : LO (D22.at LP) [] a90 pb90 ((bLists2 ++ ([l_50, (l_50 ++ ([(BitVec.ofNat 8 ((((bLists2.length * 29) + 7) * 3) + 1)), (BitVec.ofNat 8 ((((bLists2.length * 29) + 7) * 3) + 1)), (BitVec.ofNat 8 ((((bLists2.length * 29) + 7) * 3) + 1))] : List Byte))] : List (List Byte)))).length cap90 F90 (bLists2 ++ ([l_50, (l_50 ++ ([(BitVec.ofNat 8 ((((bLists2.length * 29) + 7) * 3) + 1)), (BitVec.ofNat 8 ((((bLists2.length * 29) + 7) * 3) + 1)), (BitVec.ofNat 8 ((((bLists2.length * 29) + 7) * 3) + 1))] : List Byte))] : List (List Byte))) := by rw [hQ100]; exact LO.grow D22_lifts (fun r hr => List.mem_append_right _ hr) ho90
    have ho105 : LO (D22.at LP) [] abWant3 pbWant3 (bWant3).length cbWant3 FbWant3 bWant3 := by rw [hQ100]; exact LO.grow D22_lifts (fun r hr => List.mem_append_right _ hr) ho85
    have ho106 : LO (D62.at LP) [] abKeys4 pbKeys4 (bKeys4).length cbKeys4 FbKeys4 bKeys4 := by rw [hQ100]; exact LO.grow D62_lifts (fun r hr => List.mem_append_right _ hr) ho86
    have ho107 : LO (D62.at LP) [] abWantK5 pbWantK5 (bWantK5).length cbWantK5 FbWantK5 bWantK5 := by rw [hQ100]; exact LO.grow D62_lifts (fun r hr => List.mem_append_right _ hr) ho87
    obtain ⟨ix108, hv108⟩ : ∃ i, Bx L i awant51 want51.length cwant51 want51 := ⟨_, by rw [hL100]; exact (Bx.two (L' := [_, _] ++ _) (j1 := 0) (j2 := 1) hv95 hi95 rfl rfl rfl rfl)⟩
    have hp108 : ∃ i, Bx LP i awant51 want51.length cwant51 want51 := ⟨_, by rw [hQ100]; exact (Bx.two (L' := [_, _] ++ _) (j1 := 0) (j2 := 1) hv95 hi95 rfl rfl rfl rfl)⟩
    obtain ⟨ix109, hv109⟩ : ∃ i, Bx L i a95 ((want51 ++ ([(BitVec.ofNat 8 ((((bLists2.length * 29) + 7) * 3) + 1)), (BitVec.ofNat 8 ((((bLists2.length * 29) + 7) * 3) + 1)), (BitVec.ofNat 8 ((((bLists2.length * 29) + 7) * 3) + 1))] : List Byte)).length) cap95 (want51 ++ ([(BitVec.ofNat 8 ((((bLists2.length * 29) + 7) * 3) + 1)), (BitVec.ofNat 8 ((((bLists2.length * 29) + 7) * 3) + 1)), (BitVec.ofNat 8 ((((bLists2.length * 29) + 7) * 3) + 1))] : List Byte)) := ⟨_, by rw [hL100]; exact (ho95.bx 0 rfl)⟩
    have hp109 : ∃ i, Bx LP i a95 ((want51 ++ ([(BitVec.ofNat 8 ((((bLists2.length * 29) + 7) * 3) + 1)), (BitVec.ofNat 8 ((((bLists2.length * 29) + 7) * 3) + 1)), (BitVec.ofNat 8 ((((bLists2.length * 29) + 7) * 3) + 1))] : List Byte)).length) cap95 (want51 ++ ([(BitVec.ofNat 8 ((((bLists2.length * 29) + 7) * 3) + 1)), (BitVec.ofNat 8 ((((bLists2.length * 29) + 7) * 3) + 1)), (BitVec.ofNat 8 ((((bLists2.length * 29) + 7) * 3) + 1))] : List Byte)) := ⟨_, by rw [hQ100]; exact (ho95.bx 0 rfl)⟩
    refine Plan.buildLO (D := (D22.at LP)) (sz := 1) h100 [((awant51, want51.length, cwant51), (want51 : (List Byte))), ((a95, (want51 ++ ([(BitVec.ofNat 8 ((((bLists2.length * 29) + 7) * 3) + 1)), (BitVec.ofNat 8 ((((bLists2.length * 29) + 7) * 3) + 1)), (BitVec.ofNat 8 ((((bLists2.length * 29) + 7) * 3) + 1))] : List Byte)).length, cap95), ((want51 ++ ([(BitVec.ofNat 8 ((((bLists2.length * 29) + 7) * 3) + 1)), (BitVec.ofNat 8 ((((bLists2.length * 29) + 7) * 3) + 1)), (BitVec.ofNat 8 ((((bLists2.length * 29) + 7) * 3) + 1))] : List Byte)) : (List Byte)))] FLaw03.slu75 FLaw03.sz22 FLaw03.zv22 (by decide) (by decide) rfl rfl rfl rfl (by exact (List.forall_mem_cons.2 ⟨hp108, (List.forall_mem_cons.2 ⟨hp109, (fun _ h => nomatch h)⟩)⟩)) (EffO.keep (PIn.cons 5 rfl PIn.nil)) fun b98 w98 F98 hb98 ho98 h98 => ?_
    replace ho98 : LO (D22.at LP) [] (some ⟨b98, 0, none⟩) (some b98) ([want51, (want51 ++ ([(BitVec.ofNat 8 ((((bLists2.length * 29) + 7) * 3) + 1)), (BitVec.ofNat 8 ((((bLists2.length * 29) + 7) * 3) + 1)), (BitVec.ofNat 8 ((((bLists2.length * 29) + 7) * 3) + 1))] : List Byte))] : List (List Byte)).length 2 F98 ([want51, (want51 ++ ([(BitVec.ofNat 8 ((((bLists2.length * 29) + 7) * 3) + 1)), (BitVec.ofNat 8 ((((bLists2.length * 29) + 7) * 3) + 1)), (BitVec.ofNat 8 ((((bLists2.length * 29) + 7) * 3) + 1))] : List Byte))] : List (List Byte)) := ho98.re (fun _ _ h => h)
    obtain ⟨hc111, hR⟩ := hR
    refine Plan.appendLO (D := (D22.at LP)) (X := bWant3) (Y := ([want51, (want51 ++ ([(BitVec.ofNat 8 ((((bLists2.length * 29) + 7) * 3) + 1)), (BitVec.ofNat 8 ((((bLists2.length * 29) + 7) * 3) + 1)), (BitVec.ofNat 8 ((((bLists2.length * 29) + 7) * 3) + 1))] : List Byte))] : List (List Byte))) (sz := 1) h98 (none, 0, 0) ([] : List Byte) 7 ho105 rfl FLaw03.el75 rfl FLaw03.slu75 rfl rfl rfl rfl (LO.lvf EL.at_flat ho98 0 rfl) (fun _ _ h => h) hc111.1 hc111.2 (fun _ => EffO.wait rfl) fun a110 pb110 cap110 F110 w110 ho110 h110 => ?_
    simp only [List.cons_append, List.nil_append, List.set_cons_zero, List.set_cons_succ] at h110
    replace ho110 : LO (D22.at LP) [] a110 pb110 (bWant3 ++ ([want51, (want51 ++ ([(BitVec.ofNat 8 ((((bLists2.length * 29) + 7) * 3) + 1)), (BitVec.ofNat 8 ((((bLists2.length * 29) + 7) * 3) + 1)), (BitVec.ofNat 8 ((((bLists2.length * 29) + 7) * 3) + 1))] : List Byte))] : List (List Byte))).length cap110 F110 (bWant3 ++ ([want51, (want51 ++ ([(BitVec.ofNat 8 ((((bLists2.length * 29) + 7) * 3) + 1)), (BitVec.ofNat 8 ((((bLists2.length * 29) + 7) * 3) + 1)), (BitVec.ofNat 8 ((((bLists2.length * 29) + 7) * 3) + 1))] : List Byte))] : List (List Byte))) := ho110.re (fun _ _ h => h)
    refine Plan.nilCheck rfl rfl ?_
    refine Plan.fieldAddr 1 FLaw03.fld78_1 rfl rfl ?_
    refine Plan.storeC h110 6 rfl rfl rfl rfl rfl FLaw03.sz75 rfl fun w112 h112 => ?_
    simp only [List.cons_append, List.nil_append, List.set_cons_zero, List.set_cons_succ] at h112
    refine Plan.nil ?_
    refine finR_norm ?_
    have h113 := St.pickT (C := [_, _, _, _, _, _, _, _, _, _, _, _]) h112 [4, 5, 6, 7, 8, 9, 10, 11] (by decide)
    simp only [pick, List.filterMap_cons, List.filterMap_nil, List.getElem?_cons_zero, List.getElem?_cons_succ, List.cons_append, List.nil_append] at h113
    subst r
    refine RetOk.mk .nil ?_
    obtain ⟨CF, hx1, hx2⟩ := hFr
    subst hx1
    subst hx2
    exact ⟨_, a90, pb90, (bLists2 ++ ([l_50, (l_50 ++ ([(BitVec.ofNat 8 ((((bLists2.length * 29) + 7) * 3) + 1)), (BitVec.ofNat 8 ((((bLists2.length * 29) + 7) * 3) + 1)), (BitVec.ofNat 8 ((((bLists2.length * 29) + 7) * 3) + 1))] : List Byte))] : List (List Byte))).length, cap90, F90, a110, pb110, (bWant3 ++ ([want51, (want51 ++ ([(BitVec.ofNat 8 ((((bLists2.length * 29) + 7) * 3) + 1)), (BitVec.ofNat 8 ((((bLists2.length * 29) + 7) * 3) + 1)), (BitVec.ofNat 8 ((((bLists2.length * 29) + 7) * 3) + 1))] : List Byte))] : List (List Byte))).length, cap110, F110, abKeys4, pbKeys4, bKeys4.length, cbKeys4, FbKeys4, abWantK5, pbWantK5, bWantK5.length, cbWantK5, FbWantK5, rfl, h113, ho104, ho110, ho106, ho107⟩


set_option maxRecDepth 8000 in
set_option maxHeartbeats 1000000 in
theorem lethelaw03_Book_lists_ok {B : Nat} {w0 w : World} {L : List Rg} {iG0 : Nat} (hG0 : L[iG0]? = some ⟨some 0, 0, 64, fun q => VU .u32 (K256 q), false⟩) {iG1 : Nat} (hG1 : L[iG1]? = some ⟨some 1, 0, 8, fun q => VU .u32 (H256 q), false⟩) {iG2 : Nat} (hG2 : L[iG2]? = some ⟨some 2, 0, 64, fun q => VU .u64 (K64 q), false⟩) {iG3 : Nat} (hG3 : L[iG3]? = some ⟨some 3, 0, 8, fun q => VU .u64 (H64 q), false⟩) {LP : List Rg} (hLP : ∀ r ∈ LP, r ∈ L) {bb1 : Nat} {bLists2 : List (List Byte)} {abLists2 : Option Addr} {pbLists2 : Option Nat} {nbLists2 cbLists2 : Nat} {FbLists2 : Nat → Value} (hbLists2 : LO (D22.at LP) [] abLists2 pbLists2 nbLists2 cbLists2 FbLists2 bLists2) {bWant3 : List (List Byte)} {abWant3 : Option Addr} {pbWant3 : Option Nat} {nbWant3 cbWant3 : Nat} {FbWant3 : Nat → Value} (hbWant3 : LO (D22.at LP) [] abWant3 pbWant3 nbWant3 cbWant3 FbWant3 bWant3) {bKeys4 : List (List (Nat → BitVec 8))} {abKeys4 : Option Addr} {pbKeys4 : Option Nat} {nbKeys4 cbKeys4 : Nat} {FbKeys4 : Nat → Value} (hbKeys4 : LO (D62.at LP) [] abKeys4 pbKeys4 nbKeys4 cbKeys4 FbKeys4 bKeys4) {bWantK5 : List (List (Nat → BitVec 8))} {abWantK5 : Option Addr} {pbWantK5 : Option Nat} {nbWantK5 cbWantK5 : Nat} {FbWantK5 : Nat → Value} (hbWantK5 : LO (D62.at LP) [] abWantK5 pbWantK5 nbWantK5 cbWantK5 FbWantK5 bWantK5) {oKind6 : Int} {oKey7 : List Byte} {aoKey7 : Option Addr} {noKey7 coKey7 : Nat} (qoKey7 : ∃ i, Bx LP i aoKey7 noKey7 coKey7 oKey7) {oA8 : List Byte} {aoA8 : Option Addr} {noA8 coA8 : Nat} (qoA8 : ∃ i, Bx LP i aoA8 noA8 coA8 oA8) {oB9 : List Byte} {aoB9 : Option Addr} {noB9 coB9 : Nat} (qoB9 : ∃ i, Bx LP i aoB9 noB9 coB9 oB9) {oN10 : Int} {key11 : List Byte} {akey11 : Option Addr} {nkey11 ckey11 ikey11 : Nat} (hkey11 : Bx L ikey11 akey11 nkey11 ckey11 key11) {x_12 : List Byte} {ax_12 : Option Addr} {nx_12 cx_12 ix_12 : Nat} (hx_12 : Bx L ix_12 ax_12 nx_12 cx_12 x_12) {y13 : List Byte} {ay13 : Option Addr} {ny13 cy13 iy13 : Nat} (hy13 : Bx L iy13 ay13 ny13 cy13 y13) {r : (Bool × (List (List Byte)) × (List (List Byte)) × (List (List (Nat → BitVec 8))) × (List (List (Nat → BitVec 8))))} (hR : lethelaw03_Book_lists bLists2 bWant3 bKeys4 bWantK5 oKind6 oKey7 oA8 oB9 oN10 key11 x_12 y13 r) (HST : St B w0 (⟨some bb1, 0, 1, fun _ => .slice abLists2 nbLists2 cbLists2, true⟩ :: ⟨pbLists2, 0, cbLists2 * 1, FbLists2, true⟩ :: ⟨some bb1, 1, 1, fun _ => .slice abWant3 nbWant3 cbWant3, true⟩ :: ⟨pbWant3, 0, cbWant3 * 1, FbWant3, true⟩ :: ⟨some bb1, 2, 1, fun _ => .slice abKeys4 nbKeys4 cbKeys4, true⟩ :: ⟨pbKeys4, 0, cbKeys4 * 1, FbKeys4, true⟩ :: ⟨some bb1, 3, 1, fun _ => .slice abWantK5 nbWantK5 cbWantK5, true⟩ :: ⟨pbWantK5, 0, cbWantK5 * 1, FbWantK5, true⟩ :: L) w) :
    Calls Tryd.prog 61 #[.pointer (some ⟨bb1, 0, none⟩), AG [(1, fun _ => .int .i64 oKind6), (1, fun _ => .slice aoKey7 noKey7 coKey7), (1, fun _ => .slice aoA8 noA8 coA8), (1, fun _ => .slice aoB9 noB9 coB9), (1, fun _ => .int .i64 oN10)], .slice akey11 nkey11 ckey11, .slice ax_12 nx_12 cx_12, .slice ay13 ny13 cy13] w fun e w' => ∃ C : List Rg, ∃ aqbLists2 : Option Addr, ∃ pqbLists2 : Option Nat, ∃ nqbLists2 : Nat, ∃ cqbLists2 : Nat, ∃ FqbLists2 : Nat → Value, ∃ aqbWant3 : Option Addr, ∃ pqbWant3 : Option Nat, ∃ nqbWant3 : Nat, ∃ cqbWant3 : Nat, ∃ FqbWant3 : Nat → Value, ∃ aqbKeys4 : Option Addr, ∃ pqbKeys4 : Option Nat, ∃ nqbKeys4 : Nat, ∃ cqbKeys4 : Nat, ∃ FqbKeys4 : Nat → Value, ∃ aqbWantK5 : Option Addr, ∃ pqbWantK5 : Option Nat, ∃ nqbWantK5 : Nat, ∃ cqbWantK5 : Nat, ∃ FqbWantK5 : Nat → Value, e = .returned (.bool r.1) ∧ St B w0 (⟨some bb1, 0, 1, fun _ => .slice aqbLists2 nqbLists2 cqbLists2, true⟩ :: ⟨pqbLists2, 0, cqbLists2 * 1, FqbLists2, true⟩ :: ⟨some bb1, 1, 1, fun _ => .slice aqbWant3 nqbWant3 cqbWant3, true⟩ :: ⟨pqbWant3, 0, cqbWant3 * 1, FqbWant3, true⟩ :: ⟨some bb1, 2, 1, fun _ => .slice aqbKeys4 nqbKeys4 cqbKeys4, true⟩ :: ⟨pqbKeys4, 0, cqbKeys4 * 1, FqbKeys4, true⟩ :: ⟨some bb1, 3, 1, fun _ => .slice aqbWantK5 nqbWantK5 cqbWantK5, true⟩ :: ⟨pqbWantK5, 0, cqbWantK5 * 1, FqbWantK5, true⟩ :: (C ++ L)) w' ∧ LO (D22.at (C ++ LP)) [] aqbLists2 pqbLists2 nqbLists2 cqbLists2 FqbLists2 r.2.1 ∧ LO (D22.at (C ++ LP)) [] aqbWant3 pqbWant3 nqbWant3 cqbWant3 FqbWant3 r.2.2.1 ∧ LO (D62.at (C ++ LP)) [] aqbKeys4 pqbKeys4 nqbKeys4 cqbKeys4 FqbKeys4 r.2.2.2.1 ∧ LO (D62.at (C ++ LP)) [] aqbWantK5 pqbWantK5 nqbWantK5 cqbWantK5 FqbWantK5 r.2.2.2.2 := by
  refine W.enter 65 Tryd.func61 rfl rfl rfl ?_
  unfold lethelaw03_Book_lists at hR
  have hFr : Fr2 L LP L LP := Fr2.refl _ _
  have ebLists2 := hbLists2.hl; subst ebLists2
  have ebWant3 := hbWant3.hl; subst ebWant3
  have ebKeys4 := hbKeys4.hl; subst ebKeys4
  have ebWantK5 := hbWantK5.hl; subst ebWantK5
  have eoKey7 := qoKey7.choose_spec.hl; subst eoKey7
  obtain ⟨ioKey7, hoKey7⟩ := Bx.lift qoKey7.choose_spec hLP
  have eoA8 := qoA8.choose_spec.hl; subst eoA8
  obtain ⟨ioA8, hoA8⟩ := Bx.lift qoA8.choose_spec hLP
  have eoB9 := qoB9.choose_spec.hl; subst eoB9
  obtain ⟨ioB9, hoB9⟩ := Bx.lift qoB9.choose_spec hLP
  have ekey11 := hkey11.hl; subst ekey11
  have ex_12 := hx_12.hl; subst ex_12
  have ey13 := hy13.hl; subst ey13
  refine W.seq_k fun K14 hK14 => ?_
  refine W.regionT [(0, false), (1, true)] (by kernel_rfl) ?_
  refine Plan.boxA HST rfl rfl PIn.nil fun b15 w15 hb15 h15 => ?_
  simp only [rngs, Nat.zero_add, Nat.reduceAdd, List.cons_append, List.nil_append] at h15
  refine Plan.assign_bool rfl rfl ?_
  refine Plan.nil ?_
  refine hK14 _ _ ?_; clear hK14
  refine W.seq_k fun K16 hK16 => ?_
  refine W.regionT [(0, true), (1, true)] (by kernel_rfl) ?_
  refine Plan.assign_slice rfl rfl ?_
  refine Plan.assign_slice rfl rfl ?_
  refine Plan.nil ?_
  refine hK16 _ _ ?_; clear hK16
  refine W.seq_k fun K17 hK17 => ?_
  refine W.regionT [(0, true), (1, true)] (by kernel_rfl) ?_
  refine Plan.assign_int rfl rfl ?_
  refine Plan.assign_int rfl rfl ?_
  refine Plan.nil ?_
  refine hK17 _ _ ?_; clear hK17
  refine W.seq_k fun K18 hK18 => ?_
  obtain ⟨l_73, m74, e_75, f76, hX77, hR077⟩ := hR
  refine W.cutN (fun e w => ∃ y_l_73 : List Byte, ∃ y_m74 : List Byte, ∃ y_e_75 : Nat, ∃ y_f76 : Nat, (l_73 = y_l_73 ∧ m74 = y_m74 ∧ e_75 = y_e_75 ∧ f76 = y_f76) ∧ ∃ al_73 : Option Addr, ∃ pl_73 : Option Nat, ∃ cl_73 : Nat, ∃ Fl_73 : Nat → Byte, ∃ rm74 : Rg, ∃ am74 : Option Addr, ∃ cm74 : Nat, EnvHas e [(0, .pointer (some ⟨bb1, 0, none⟩)), (11, .slice al_73 y_l_73.length cl_73), (12, .slice am74 y_m74.length cm74), (13, VN y_e_75), (14, VN y_f76)] ∧ St B w0 (⟨pl_73, 0, cl_73, fun q => VU .u8 (Fl_73 q), true⟩ :: rm74 :: ⟨some bb1, 0, 1, fun _ => .slice abLists2 bLists2.length cbLists2, true⟩ :: ⟨pbLists2, 0, cbLists2 * 1, FbLists2, true⟩ :: ⟨some bb1, 1, 1, fun _ => .slice abWant3 bWant3.length cbWant3, true⟩ :: ⟨pbWant3, 0, cbWant3 * 1, FbWant3, true⟩ :: ⟨some bb1, 2, 1, fun _ => .slice abKeys4 bKeys4.length cbKeys4, true⟩ :: ⟨pbKeys4, 0, cbKeys4 * 1, FbKeys4, true⟩ :: ⟨some bb1, 3, 1, fun _ => .slice abWantK5 bWantK5.length cbWantK5, true⟩ :: ⟨pbWantK5, 0, cbWantK5 * 1, FbWantK5, true⟩ :: L) w ∧ Ow al_73 pl_73 y_l_73.length cl_73 Fl_73 y_l_73 ∧ Bx (⟨pl_73, 0, cl_73, fun q => VU .u8 (Fl_73 q), true⟩ :: rm74 :: ⟨some bb1, 0, 1, fun _ => .slice abLists2 bLists2.length cbLists2, true⟩ :: ⟨pbLists2, 0, cbLists2 * 1, FbLists2, true⟩ :: ⟨some bb1, 1, 1, fun _ => .slice abWant3 bWant3.length cbWant3, true⟩ :: ⟨pbWant3, 0, cbWant3 * 1, FbWant3, true⟩ :: ⟨some bb1, 2, 1, fun _ => .slice abKeys4 bKeys4.length cbKeys4, true⟩ :: ⟨pbKeys4, 0, cbKeys4 * 1, FbKeys4, true⟩ :: ⟨some bb1, 3, 1, fun _ => .slice abWantK5 bWantK5.length cbWantK5, true⟩ :: ⟨pbWantK5, 0, cbWantK5 * 1, FbWantK5, true⟩ :: L) 1 am74 y_m74.length cm74 y_m74) ?_ ?_
  ·
    replace hR := hX77
    refine W.seq_k fun K78 hK78 => ?_
    refine W.regionT [(0, true), (1, true), (2, true)] (by kernel_rfl) ?_
    refine Plan.fieldAddr0 FLaw03.fld81_0 rfl rfl ?_
    refine Plan.load0 h15 0 rfl rfl rfl (by omega) FLaw03.sc3 ?_
    refine Plan.cmpP (a := (oKind6 : Int)) (b := (3 : Int)) (p := oKind6 = 3) rfl rfl rfl rfl icmp_eq ?_
    refine Plan.nil ?_
    refine hK78 _ _ ?_; clear hK78
    by_cases hc79 : oKind6 = 3
    ·
      replace hR := ifT hR hc79
      refine W.condT (congrArg Value.bool (decide_eq_true hc79)) ?_
      refine W.seq_k fun K80 hK80 => ?_
      refine W.regionT [(0, true), (1, true), (2, true), (3, true), (4, false), (5, true), (6, true), (7, true), (8, true), (9, true)] (by kernel_rfl) ?_
      refine Plan.move_slice rfl rfl ?_
      refine Plan.move_slice rfl rfl ?_
      refine Plan.fieldAddr 4 FLaw03.fld81_4 rfl rfl ?_
      refine Plan.load0 h15 4 rfl rfl rfl (by omega) FLaw03.sc3 ?_
      obtain ⟨x_82, x_83, hr81, hR⟩ := hR
      refine Plan.call (vs := [.slice akey11 key11.length ckey11, .slice ax_12 x_12.length cx_12, .int .i64 oN10]) rfl FLaw03.call40 rfl (kdf_Expand_ok (iG0 := iG0 + 13) hG0 (iG1 := iG1 + 13) hG1 (hkey11.app [_, _, _, _, _, _, _, _, _, _, _, _, _]) (hx_12.app [_, _, _, _, _, _, _, _, _, _, _, _, _]) hr81 h15) ?_
      rintro _ w89 ⟨ay0_84, py0_85, ny0_86, cy0_87, Fy0_88, rfl, h89, hf89_0⟩
      try dsimp only at hf89_0
      obtain rfl := hf89_0.hl
      refine ⟨_, rfl, .inr ⟨rfl, ?_⟩⟩
      refine Plan.move_tuple rfl rfl ?_
      refine Plan.extract_slice rfl rfl rfl ?_
      refine Plan.extract_int rfl rfl rfl ?_
      refine Plan.assign_slice rfl rfl ?_
      refine Plan.assign_int rfl rfl ?_
      refine Plan.nil ?_
      refine hK80 _ _ ?_; clear hK80
      refine W.regionT [(0, true), (1, true), (2, true), (3, true), (4, false), (5, true), (6, true), (7, true), (8, true), (9, true)] (by kernel_rfl) ?_
      refine Plan.move_slice rfl rfl ?_
      refine Plan.move_slice rfl rfl ?_
      refine Plan.fieldAddr 4 FLaw03.fld81_4 rfl rfl ?_
      refine Plan.load0 h89 5 rfl rfl rfl (by omega) FLaw03.sc3 ?_
      rcases hR with ⟨x_91, x_92, hr90, hR⟩ | ⟨x_93, x_94, hr90, hR⟩
      ·
        refine Plan.call (vs := [.slice akey11 key11.length ckey11, .slice ax_12 x_12.length cx_12, .int .i64 oN10]) rfl FLaw03.call75 rfl (letheref03_Expand_ok (iG2 := iG2 + 14) hG2 (iG3 := iG3 + 14) hG3 (hkey11.app [_, _, _, _, _, _, _, _, _, _, _, _, _, _]) (hx_12.app [_, _, _, _, _, _, _, _, _, _, _, _, _, _]) hr90 h89) ?_
        rintro _ w100 ⟨ay0_95, py0_96, ny0_97, cy0_98, Fy0_99, rfl, h100, hf100_0⟩
        try dsimp only at hf100_0
        obtain rfl := hf100_0.hl
        refine ⟨_, rfl, .inr ⟨rfl, ?_⟩⟩
        refine Plan.move_tuple rfl rfl ?_
        refine Plan.extract_slice rfl rfl rfl ?_
        refine Plan.extract_int rfl rfl rfl ?_
        refine Plan.assign_slice rfl rfl ?_
        refine Plan.assign_int rfl rfl ?_
        refine Plan.nil ?_
        have h101 := St.pickT (C := [_, _, _, _, _, _, _, _, _, _, _, _, _, _, _]) h100 [1, 0, 7, 8, 9, 10, 11, 12, 13, 14] (by decide)
        simp only [pick, List.filterMap_cons, List.filterMap_nil, List.getElem?_cons_zero, List.getElem?_cons_succ, List.cons_append, List.nil_append] at h101
        exact ⟨x_82, x_91, x_83, x_92, hR, ay0_84, py0_85, cy0_87, Fy0_88, ⟨py0_96, 0, cy0_98, fun q => VU .u8 (Fy0_99 q), true⟩, ay0_95, cy0_98, (EnvHas.cons rfl (EnvHas.cons rfl (EnvHas.cons rfl (EnvHas.cons rfl (EnvHas.cons rfl EnvHas.nil))))), h101, hf89_0, (hf100_0.bx 1 rfl)⟩
      ·
        refine Plan.call (vs := [.slice akey11 key11.length ckey11, .slice ax_12 x_12.length cx_12, .int .i64 oN10]) rfl FLaw03.call75 rfl (letheref03_Expand_ok (iG2 := iG2 + 14) hG2 (iG3 := iG3 + 14) hG3 (hkey11.app [_, _, _, _, _, _, _, _, _, _, _, _, _, _]) (hx_12.app [_, _, _, _, _, _, _, _, _, _, _, _, _, _]) hr90 h89) ?_
        rintro _ w106 ⟨ry0_102, ay0_103, ny0_104, cy0_105, rfl, h106, hf106_0⟩
        try dsimp only at hf106_0
        obtain rfl := hf106_0.hl
        refine ⟨_, rfl, .inr ⟨rfl, ?_⟩⟩
        refine Plan.move_tuple rfl rfl ?_
        refine Plan.extract_slice rfl rfl rfl ?_
        refine Plan.extract_int rfl rfl rfl ?_
        refine Plan.assign_slice rfl rfl ?_
        refine Plan.assign_int rfl rfl ?_
        refine Plan.nil ?_
        have h107 := St.pickT (C := [_, _, _, _, _, _, _, _, _, _, _, _, _, _, _]) h106 [1, 0, 7, 8, 9, 10, 11, 12, 13, 14] (by decide)
        simp only [pick, List.filterMap_cons, List.filterMap_nil, List.getElem?_cons_zero, List.getElem?_cons_succ, List.cons_append, List.nil_append] at h107
        exact ⟨x_82, x_93, x_83, x_94, hR, ay0_84, py0_85, cy0_87, Fy0_88, ry0_102, ay0_103, cy0_105, (EnvHas.cons rfl (EnvHas.cons rfl (EnvHas.cons rfl (EnvHas.cons rfl (EnvHas.cons rfl EnvHas.nil))))), h107, hf89_0, (Bx.move (j := 1) hf106_0 rfl rfl)⟩
    ·
      replace hR := ifF hR hc79
      refine W.condF (congrArg Value.bool (decide_eq_false hc79)) ?_
      refine W.seq_k fun K108 hK108 => ?_
      refine W.regionT [(0, true), (1, true), (2, true), (3, true), (4, true), (5, false), (6, true), (7, true), (8, true), (9, true), (10, true)] (by kernel_rfl) ?_
      refine Plan.move_slice rfl rfl ?_
      refine Plan.move_slice rfl rfl ?_
      refine Plan.move_slice rfl rfl ?_
      refine Plan.fieldAddr 4 FLaw03.fld81_4 rfl rfl ?_
      refine Plan.load0 h15 4 rfl rfl rfl (by omega) FLaw03.sc3 ?_
      obtain ⟨x_110, x_111, hr109, hR⟩ := hR
      refine Plan.call (vs := [.slice akey11 key11.length ckey11, .slice ax_12 x_12.length cx_12, .slice ay13 y13.length cy13, .int .i64 oN10]) rfl FLaw03.call42 rfl (kdf_Derive_ok (iG0 := iG0 + 13) hG0 (iG1 := iG1 + 13) hG1 (hkey11.app [_, _, _, _, _, _, _, _, _, _, _, _, _]) (hx_12.app [_, _, _, _, _, _, _, _, _, _, _, _, _]) (hy13.app [_, _, _, _, _, _, _, _, _, _, _, _, _]) hr109 h15) ?_
      rintro _ w117 ⟨ay0_112, py0_113, ny0_114, cy0_115, Fy0_116, rfl, h117, hf117_0⟩
      try dsimp only at hf117_0
      obtain rfl := hf117_0.hl
      refine ⟨_, rfl, .inr ⟨rfl, ?_⟩⟩
      refine Plan.move_tuple rfl rfl ?_
      refine Plan.extract_slice rfl rfl rfl ?_
      refine Plan.extract_int rfl rfl rfl ?_
      refine Plan.assign_slice rfl rfl ?_
      refine Plan.assign_int rfl rfl ?_
      refine Plan.nil ?_
      refine hK108 _ _ ?_; clear hK108
      refine W.regionT [(0, true), (1, true), (2, true), (3, true), (4, true), (5, false), (6, true), (7, true), (8, true), (9, true), (10, true)] (by kernel_rfl) ?_
      refine Plan.move_slice rfl rfl ?_
      refine Plan.move_slice rfl rfl ?_
      refine Plan.move_slice rfl rfl ?_
      refine Plan.fieldAddr 4 FLaw03.fld81_4 rfl rfl ?_
      refine Plan.load0 h117 5 rfl rfl rfl (by omega) FLaw03.sc3 ?_
      rcases hR with ⟨x_119, x_120, hr118, hR⟩ | ⟨x_121, x_122, hr118, hR⟩
      ·
        refine Plan.call (vs := [.slice akey11 key11.length ckey11, .slice ax_12 x_12.length cx_12, .slice ay13 y13.length cy13, .int .i64 oN10]) rfl FLaw03.call64 rfl (letheref03_Derive_ok (iG2 := iG2 + 14) hG2 (iG3 := iG3 + 14) hG3 (hkey11.app [_, _, _, _, _, _, _, _, _, _, _, _, _, _]) (hx_12.app [_, _, _, _, _, _, _, _, _, _, _, _, _, _]) (hy13.app [_, _, _, _, _, _, _, _, _, _, _, _, _, _]) hr118 h117) ?_
        rintro _ w128 ⟨ay0_123, py0_124, ny0_125, cy0_126, Fy0_127, rfl, h128, hf128_0⟩
        try dsimp only at hf128_0
        obtain rfl := hf128_0.hl
        refine ⟨_, rfl, .inr ⟨rfl, ?_⟩⟩
        refine Plan.move_tuple rfl rfl ?_
        refine Plan.extract_slice rfl rfl rfl ?_
        refine Plan.extract_int rfl rfl rfl ?_
        refine Plan.assign_slice rfl rfl ?_
        refine Plan.assign_int rfl rfl ?_
        refine Plan.nil ?_
        have h129 := St.pickT (C := [_, _, _, _, _, _, _, _, _, _, _, _, _, _, _]) h128 [1, 0, 7, 8, 9, 10, 11, 12, 13, 14] (by decide)
        simp only [pick, List.filterMap_cons, List.filterMap_nil, List.getElem?_cons_zero, List.getElem?_cons_succ, List.cons_append, List.nil_append] at h129
        exact ⟨x_110, x_119, x_111, x_120, hR, ay0_112, py0_113, cy0_115, Fy0_116, ⟨py0_124, 0, cy0_126, fun q => VU .u8 (Fy0_127 q), true⟩, ay0_123, cy0_126, (EnvHas.cons rfl (EnvHas.cons rfl (EnvHas.cons rfl (EnvHas.cons rfl (EnvHas.cons rfl EnvHas.nil))))), h129, hf117_0, (hf128_0.bx 1 rfl)⟩
      ·
        refine Plan.call (vs := [.slice akey11 key11.length ckey11, .slice ax_12 x_12.length cx_12, .slice ay13 y13.length cy13, .int .i64 oN10]) rfl FLaw03.call64 rfl (letheref03_Derive_ok (iG2 := iG2 + 14) hG2 (iG3 := iG3 + 14) hG3 (hkey11.app [_, _, _, _, _, _, _, _, _, _, _, _, _, _]) (hx_12.app [_, _, _, _, _, _, _, _, _, _, _, _, _, _]) (hy13.app [_, _, _, _, _, _, _, _, _, _, _, _, _, _]) hr118 h117) ?_
        rintro _ w134 ⟨ry0_130, ay0_131, ny0_132, cy0_133, rfl, h134, hf134_0⟩
        try dsimp only at hf134_0
        obtain rfl := hf134_0.hl
        refine ⟨_, rfl, .inr ⟨rfl, ?_⟩⟩
        refine Plan.move_tuple rfl rfl ?_
        refine Plan.extract_slice rfl rfl rfl ?_
        refine Plan.extract_int rfl rfl rfl ?_
        refine Plan.assign_slice rfl rfl ?_
        refine Plan.assign_int rfl rfl ?_
        refine Plan.nil ?_
        have h135 := St.pickT (C := [_, _, _, _, _, _, _, _, _, _, _, _, _, _, _]) h134 [1, 0, 7, 8, 9, 10, 11, 12, 13, 14] (by decide)
        simp only [pick, List.filterMap_cons, List.filterMap_nil, List.getElem?_cons_zero, List.getElem?_cons_succ, List.cons_append, List.nil_append] at h135
        exact ⟨x_110, x_121, x_111, x_122, hR, ay0_112, py0_113, cy0_115, Fy0_116, ry0_130, ay0_131, cy0_133, (EnvHas.cons rfl (EnvHas.cons rfl (EnvHas.cons rfl (EnvHas.cons rfl (EnvHas.cons rfl EnvHas.nil))))), h135, hf117_0, (Bx.move (j := 1) hf134_0 rfl rfl)⟩
  ·
    rintro ev136 wl136 ⟨y_l_73, y_m74, y_e_75, y_f76, ⟨hy136_0, hy136_1, hy136_2, hy136_3⟩, al_73, pl_73, cl_73, Fl_73, rm74, am74, cm74, he136, h136, hl_73, hm74⟩
    subst hy136_0
    subst hy136_1
    subst hy136_2
    subst hy136_3
    obtain ⟨ev136, rfl⟩ := he136.open
    replace hR := hR077
    refine hK18 _ _ ?_; clear hK18
    refine W.seq_k fun K137 hK137 => ?_
    obtain ⟨l_142, ok143, hX144, hR0144⟩ := hR
    refine W.cutN (fun e w => ∃ y_l_142 : List Byte, ∃ y_ok143 : Bool, (l_142 = y_l_142 ∧ ok143 = y_ok143) ∧ ∃ al_142 : Option Addr, ∃ pl_142 : Option Nat, ∃ cl_142 : Nat, ∃ Fl_142 : Nat → Byte, EnvHas e [(0, .pointer (some ⟨bb1, 0, none⟩)), (11, .slice al_142 l_73.length cl_142), (15, .bool y_ok143)] ∧ St B w0 (⟨pl_142, 0, cl_142, fun q => VU .u8 (Fl_142 q), true⟩ :: ⟨some bb1, 0, 1, fun _ => .slice abLists2 bLists2.length cbLists2, true⟩ :: ⟨pbLists2, 0, cbLists2 * 1, FbLists2, true⟩ :: ⟨some bb1, 1, 1, fun _ => .slice abWant3 bWant3.length cbWant3, true⟩ :: ⟨pbWant3, 0, cbWant3 * 1, FbWant3, true⟩ :: ⟨some bb1, 2, 1, fun _ => .slice abKeys4 bKeys4.length cbKeys4, true⟩ :: ⟨pbKeys4, 0, cbKeys4 * 1, FbKeys4, true⟩ :: ⟨some bb1, 3, 1, fun _ => .slice abWantK5 bWantK5.length cbWantK5, true⟩ :: ⟨pbWantK5, 0, cbWantK5 * 1, FbWantK5, true⟩ :: L) w ∧ Ow al_142 pl_142 l_73.length cl_142 Fl_142 y_l_142) ?_ ?_
    ·
      replace hR := hX144
      refine W.regionT [(0, true), (1, true), (2, true), (3, true), (4, true), (5, true), (6, false), (7, true), (8, true)] (by kernel_rfl) ?_
      refine Plan.move_int rfl rfl ?_
      refine Plan.move_int rfl rfl ?_
      by_cases hc145 : e_75 = f76
      ·
        replace hR := ifT hR hc145
        refine Plan.cmpV (a := (((e_75 : Nat) : Int) : Int)) (b := (((f76 : Nat) : Int) : Int)) (p := e_75 = f76) (v := true) rfl rfl rfl rfl icmp_eqN (decide_eq_true hc145) ?_
        refine Plan.move_bool rfl rfl ?_
        refine Plan.move_slice rfl rfl ?_
        refine Plan.move_slice rfl rfl ?_
        obtain ⟨x_147, hr146, hR⟩ := hR
        refine Plan.call (vs := [.slice al_73 l_73.length cl_73, .slice am74 m74.length cm74]) rfl FLaw03.call41 rfl (lethelaw03_Eq_ok (by exact (hl_73.bx 0 rfl)) (by exact (Bx.move (j := 1) hm74 rfl rfl)) hr146 h136) ?_
        rintro _ w148 ⟨rfl, h148⟩
        refine ⟨_, rfl, .inl ⟨PIn.keep PIn.nil h148, ?_⟩⟩
        refine Plan.pickTb rfl rfl rfl ?_
        refine Plan.assign_bool rfl rfl ?_
        refine Plan.nil ?_
        have h149 := St.pickT (C := [_, _, _, _, _, _, _, _, _, _]) h148 [0, 2, 3, 4, 5, 6, 7, 8, 9] (by decide)
        simp only [pick, List.filterMap_cons, List.filterMap_nil, List.getElem?_cons_zero, List.getElem?_cons_succ, List.cons_append, List.nil_append] at h149
        exact ⟨l_73, x_147, hR, al_73, pl_73, cl_73, Fl_73, (EnvHas.cons rfl (EnvHas.cons rfl (EnvHas.cons rfl EnvHas.nil))), h149, hl_73⟩
      ·
        replace hR := ifF hR hc145
        refine Plan.cmpV (a := (((e_75 : Nat) : Int) : Int)) (b := (((f76 : Nat) : Int) : Int)) (p := e_75 = f76) (v := false) rfl rfl rfl rfl icmp_eqN (decide_eq_false hc145) ?_
        refine Plan.move_bool rfl rfl ?_
        refine Plan.passed rfl ?_
        refine Plan.passed rfl ?_
        refine Plan.passed rfl ?_
        refine Plan.pickFb rfl rfl rfl ?_
        refine Plan.assign_bool rfl rfl ?_
        refine Plan.nil ?_
        have h150 := St.pickT (C := [_, _, _, _, _, _, _, _, _, _]) h136 [0, 2, 3, 4, 5, 6, 7, 8, 9] (by decide)
        simp only [pick, List.filterMap_cons, List.filterMap_nil, List.getElem?_cons_zero, List.getElem?_cons_succ, List.cons_append, List.nil_append] at h150
        exact ⟨l_73, false, hR, al_73, pl_73, cl_73, Fl_73, (EnvHas.cons rfl (EnvHas.cons rfl (EnvHas.cons rfl EnvHas.nil))), h150, hl_73⟩
    ·
      rintro ev151 wl151 ⟨y_l_142, y_ok143, ⟨hy151_0, hy151_1⟩, al_142, pl_142, cl_142, Fl_142, he151, h151, hl_142⟩
      subst hy151_0
      subst hy151_1
      obtain ⟨ev151, rfl⟩ := he151.open
      replace hR := hR0144
      refine hK137 _ _ ?_; clear hK137
      refine W.seq_k fun K152 hK152 => ?_
      refine W.regionT [(0, true), (1, true), (2, false)] (by kernel_rfl) ?_
      refine Plan.move_ptr rfl rfl ?_
      refine Plan.move_slice rfl rfl ?_
      have h153 := St.pickT (C := [_, _, _, _, _, _, _, _, _]) h151 [1, 2, 3, 4, 5, 6, 7, 8, 0] (by decide)
      simp only [pick, List.filterMap_cons, List.filterMap_nil, List.getElem?_cons_zero, List.getElem?_cons_succ, List.cons_append, List.nil_append] at h153
      obtain ⟨x_155, x_156, x_157, x_158, hr154, hR⟩ := hR
      refine Plan.call (vs := [.pointer (some ⟨bb1, 0, none⟩), .slice al_142 l_73.length cl_142]) rfl FLaw03.call76 rfl (lethelaw03_Book_Note_ok (LP := LP) (by exact fun r hr => List.mem_append_right [] (hLP r hr)) (by exact LO.grow D22_lifts (fun r hr => hr) hbLists2) (by exact LO.grow D22_lifts (fun r hr => hr) hbWant3) (by exact LO.grow D62_lifts (fun r hr => hr) hbKeys4) (by exact LO.grow D62_lifts (fun r hr => hr) hbWantK5) (by exact hl_142) hr154 h153) ?_
      rintro _ w179 ⟨C179, aqbLists2_159, pqbLists2_160, nqbLists2_161, cqbLists2_162, FqbLists2_163, aqbWant3_164, pqbWant3_165, nqbWant3_166, cqbWant3_167, FqbWant3_168, aqbKeys4_169, pqbKeys4_170, nqbKeys4_171, cqbKeys4_172, FqbKeys4_173, aqbWantK5_174, pqbWantK5_175, nqbWantK5_176, cqbWantK5_177, FqbWantK5_178, rfl, h179, hf179_0, hf179_1, hf179_2, hf179_3⟩
      try dsimp only at hf179_0 hf179_1 hf179_2 hf179_3
      obtain rfl := hf179_0.hl
      obtain rfl := hf179_1.hl
      obtain rfl := hf179_2.hl
      obtain rfl := hf179_3.hl
      replace h179 := St.pool (N := [_, _, _, _, _, _, _, _]) (R := []) h179
      obtain ⟨L, hL180⟩ : ∃ X, X = C179 ++ L := ⟨_, rfl⟩
      obtain ⟨LP, hQ180⟩ : ∃ X, X = C179 ++ LP := ⟨_, rfl⟩
      replace hLP : ∀ r ∈ LP, r ∈ L := by rw [hQ180, hL180]; exact frMemGrow hLP
      have h180 := St.re (N := [_, _, _, _, _, _, _, _]) hL180 h179
      simp only [List.cons_append, List.nil_append] at h180
      replace hFr : Fr2 _ _ L LP := hFr.step hL180 hQ180
      have ho181 : LO (D22.at LP) [] aqbLists2_159 pqbLists2_160 (x_155).length cqbLists2_162 FqbLists2_163 x_155 := LO.grow D22_lifts (fun r hr => (by rw [hQ180]; exact hr)) hf179_0
      have ho182 : LO (D22.at LP) [] aqbWant3_164 pqbWant3_165 (x_156).length cqbWant3_167 FqbWant3_168 x_156 := LO.grow D22_lifts (fun r hr => (by rw [hQ180]; exact hr)) hf179_1
      have ho183 : LO (D62.at LP) [] aqbKeys4_169 pqbKeys4_170 (x_157).length cqbKeys4_172 FqbKeys4_173 x_157 := LO.grow D62_lifts (fun r hr => (by rw [hQ180]; exact hr)) hf179_2
      have ho184 : LO (D62.at LP) [] aqbWantK5_174 pqbWantK5_175 (x_158).length cqbWantK5_177 FqbWantK5_178 x_158 := LO.grow D62_lifts (fun r hr => (by rw [hQ180]; exact hr)) hf179_3
      refine ⟨_, rfl, .inl ⟨PIn.keep PIn.nil h180, ?_⟩⟩
      refine Plan.nil ?_
      refine hK152 _ _ ?_; clear hK152
      refine W.seq_k fun K185 hK185 => ?_
      refine W.regionT [(0, true), (1, true)] (by kernel_rfl) ?_
      refine Plan.move_bool rfl rfl ?_
      refine Plan.assign_bool rfl rfl ?_
      refine Plan.nil ?_
      refine hK185 _ _ ?_; clear hK185
      refine W.ret (finR_ret ?_)
      subst r
      refine RetOk.mk (.tmp_bool rfl .nil) ?_
      obtain ⟨CF, hx1, hx2⟩ := hFr
      subst hx1
      subst hx2
      exact ⟨_, aqbLists2_159, pqbLists2_160, x_155.length, cqbLists2_162, FqbLists2_163, aqbWant3_164, pqbWant3_165, x_156.length, cqbWant3_167, FqbWant3_168, aqbKeys4_169, pqbKeys4_170, x_157.length, cqbKeys4_172, FqbKeys4_173, aqbWantK5_174, pqbWantK5_175, x_158.length, cqbWantK5_177, FqbWantK5_178, rfl, h180, ho181, ho182, ho183, ho184⟩


set_option maxRecDepth 8000 in
set_option maxHeartbeats 1000000 in
theorem lethelaw03_Book_Note32_ok {B : Nat} {w0 w : World} {L : List Rg} {LP : List Rg} (hLP : ∀ r ∈ LP, r ∈ L) {bb1 : Nat} {bLists2 : List (List Byte)} {abLists2 : Option Addr} {pbLists2 : Option Nat} {nbLists2 cbLists2 : Nat} {FbLists2 : Nat → Value} (hbLists2 : LO (D22.at LP) [] abLists2 pbLists2 nbLists2 cbLists2 FbLists2 bLists2) {bWant3 : List (List Byte)} {abWant3 : Option Addr} {pbWant3 : Option Nat} {nbWant3 cbWant3 : Nat} {FbWant3 : Nat → Value} (hbWant3 : LO (D22.at LP) [] abWant3 pbWant3 nbWant3 cbWant3 FbWant3 bWant3) {bKeys4 : List (List (Nat → BitVec 8))} {abKeys4 : Option Addr} {pbKeys4 : Option Nat} {nbKeys4 cbKeys4 : Nat} {FbKeys4 : Nat → Value} (hbKeys4 : LO (D62.at LP) [] abKeys4 pbKeys4 nbKeys4 cbKeys4 FbKeys4 bKeys4) {bWantK5 : List (List (Nat → BitVec 8))} {abWantK5 : Option Addr} {pbWantK5 : Option Nat} {nbWantK5 cbWantK5 : Nat} {FbWantK5 : Nat → Value} (hbWantK5 : LO (D62.at LP) [] abWantK5 pbWantK5 nbWantK5 cbWantK5 FbWantK5 bWantK5) {l_6 : List (Nat → BitVec 8)} {al_6 : Option Addr} {pl_6 : Option Nat} {nl_6 cl_6 : Nat} {Fl_6 : Nat → Value} (hl_6 : LO D61 [] al_6 pl_6 nl_6 cl_6 Fl_6 l_6) {r : ((List (List Byte)) × (List (List Byte)) × (List (List (Nat → BitVec 8))) × (List (List (Nat → BitVec 8))))} (hR : lethelaw03_Book_Note32 bLists2 bWant3 bKeys4 bWantK5 l_6 r) (HST : St B w0 (⟨some bb1, 0, 1, fun _ => .slice abLists2 nbLists2 cbLists2, true⟩ :: ⟨pbLists2, 0, cbLists2 * 1, FbLists2, true⟩ :: ⟨some bb1, 1, 1, fun _ => .slice abWant3 nbWant3 cbWant3, true⟩ :: ⟨pbWant3, 0, cbWant3 * 1, FbWant3, true⟩ :: ⟨some bb1, 2, 1, fun _ => .slice abKeys4 nbKeys4 cbKeys4, true⟩ :: ⟨pbKeys4, 0, cbKeys4 * 1, FbKeys4, true⟩ :: ⟨some bb1, 3, 1, fun _ => .slice abWantK5 nbWantK5 cbWantK5, true⟩ :: ⟨pbWantK5, 0, cbWantK5 * 1, FbWantK5, true⟩ :: ⟨pl_6, 0, cl_6 * 32, Fl_6, true⟩ :: L) w) :
    Calls Tryd.prog 78 #[.pointer (some ⟨bb1, 0, none⟩), .slice al_6 nl_6 cl_6] w fun e w' => ∃ C : List Rg, ∃ aqbLists2 : Option Addr, ∃ pqbLists2 : Option Nat, ∃ nqbLists2 : Nat, ∃ cqbLists2 : Nat, ∃ FqbLists2 : Nat → Value, ∃ aqbWant3 : Option Addr, ∃ pqbWant3 : Option Nat, ∃ nqbWant3 : Nat, ∃ cqbWant3 : Nat, ∃ FqbWant3 : Nat → Value, ∃ aqbKeys4 : Option Addr, ∃ pqbKeys4 : Option Nat, ∃ nqbKeys4 : Nat, ∃ cqbKeys4 : Nat, ∃ FqbKeys4 : Nat → Value, ∃ aqbWantK5 : Option Addr, ∃ pqbWantK5 : Option Nat, ∃ nqbWantK5 : Nat, ∃ cqbWantK5 : Nat, ∃ FqbWantK5 : Nat → Value, e = .returned (.tuple #[]) ∧ St B w0 (⟨some bb1, 0, 1, fun _ => .slice aqbLists2 nqbLists2 cqbLists2, true⟩ :: ⟨pqbLists2, 0, cqbLists2 * 1, FqbLists2, true⟩ :: ⟨some bb1, 1, 1, fun _ => .slice aqbWant3 nqbWant3 cqbWant3, true⟩ :: ⟨pqbWant3, 0, cqbWant3 * 1, FqbWant3, true⟩ :: ⟨some bb1, 2, 1, fun _ => .slice aqbKeys4 nqbKeys4 cqbKeys4, true⟩ :: ⟨pqbKeys4, 0, cqbKeys4 * 1, FqbKeys4, true⟩ :: ⟨some bb1, 3, 1, fun _ => .slice aqbWantK5 nqbWantK5 cqbWantK5, true⟩ :: ⟨pqbWantK5, 0, cqbWantK5 * 1, FqbWantK5, true⟩ :: (C ++ L)) w' ∧ LO (D22.at (C ++ LP)) [] aqbLists2 pqbLists2 nqbLists2 cqbLists2 FqbLists2 r.1 ∧ LO (D22.at (C ++ LP)) [] aqbWant3 pqbWant3 nqbWant3 cqbWant3 FqbWant3 r.2.1 ∧ LO (D62.at (C ++ LP)) [] aqbKeys4 pqbKeys4 nqbKeys4 cqbKeys4 FqbKeys4 r.2.2.1 ∧ LO (D62.at (C ++ LP)) [] aqbWantK5 pqbWantK5 nqbWantK5 cqbWantK5 FqbWantK5 r.2.2.2 := by
  refine W.enter 59 Tryd.func78 rfl rfl rfl ?_
  unfold lethelaw03_Book_Note32 at hR
  have hFr : Fr2 L LP L LP := Fr2.refl _ _
  have ebLists2 := hbLists2.hl; subst ebLists2
  have ebWant3 := hbWant3.hl; subst ebWant3
  have ebKeys4 := hbKeys4.hl; subst ebKeys4
  have ebWantK5 := hbWantK5.hl; subst ebWantK5
  have el_6 := hl_6.hl; subst el_6
  refine W.seq_k fun K7 hK7 => ?_
  refine W.regionT [(0, true), (1, true), (2, true), (3, true), (4, true), (5, true), (6, true), (7, true), (8, false), (9, false)] (by kernel_rfl) ?_
  refine Plan.move_ptr rfl rfl ?_
  refine Plan.nilCheck rfl rfl ?_
  refine Plan.fieldAddr 2 FLaw03.fld78_2 rfl rfl ?_
  refine Plan.load0 HST 4 rfl rfl rfl (by omega) FLaw03.sc76 ?_
  refine Plan.len FLaw03.isl76 rfl rfl ?_
  obtain ⟨hc8, hR⟩ := hR
  refine Plan.addN (a := bKeys4.length) (b := 1) rfl rfl rfl (by omega) ?_
  refine Plan.convNU .u8 (a := (bKeys4.length + 1)) FLaw03.u5 FLaw03.some3 rfl rfl ?_
  refine Plan.buildArr (ps := [(32, fun q => VU .u8 ((upd (upd (fun _ => 0#8) 0 (BitVec.ofNat 8 (bKeys4.length + 1))) 1 (209#8)) q))]) FLaw03.arr61 FLaw03.z61 rfl rfl rfl ?_
  refine Plan.alloc HST rfl FLaw03.z61 (PIn.cons 4 rfl PIn.nil) fun b9 w9 hb9 h9 => ?_
  simp only [rngs, Nat.zero_add, Nat.reduceAdd, List.cons_append, List.nil_append] at h9
  refine Plan.storeA (f' := fun q => VU .u8 ((upd (upd (fun _ => 0#8) 0 (BitVec.ofNat 8 (bKeys4.length + 1))) 1 (209#8)) q)) h9 0 rfl rfl rfl rfl (fun _ _ => rfl) FLaw03.sz61 rfl fun w10 h10 => ?_
  simp only [List.cons_append, List.nil_append, List.set_cons_zero, List.set_cons_succ] at h10
  refine Plan.nil ?_
  refine hK7 _ _ ?_; clear hK7
  refine W.seq_k fun K11 hK11 => ?_
  refine W.regionT [(0, true)] (by kernel_rfl) ?_
  refine Plan.assign_slice rfl rfl ?_
  refine Plan.nil ?_
  refine hK11 _ _ ?_; clear hK11
  refine W.seq_k fun K12 hK12 => ?_
  refine W.seq_k fun K13 hK13 => ?_
  refine W.regionT [(0, true)] (by kernel_rfl) ?_
  refine Plan.assign_int rfl rfl ?_
  refine Plan.nil ?_
  refine hK13 _ _ ?_; clear hK13
  have h49 : St B w0 (⟨none, 0, 0 * 32, fun _ => undef, true⟩ :: _) _ := h10.nilE (fun _ => undef)
  obtain ⟨l_46, want47, hI48, hR048⟩ := hR
  refine W.cutN (fun e w => ∃ y_l_46 : List (Nat → BitVec 8), ∃ y_want47 : List (Nat → BitVec 8), (l_46, want47) = (y_l_46, y_want47) ∧ ∃ n_l_46 : Nat, ∃ al_46 : Option Addr, ∃ pl_46 : Option Nat, ∃ cl_46 : Nat, ∃ Fl_46 : Nat → Value, ∃ n_want47 : Nat, ∃ awant47 : Option Addr, ∃ pwant47 : Option Nat, ∃ cwant47 : Nat, ∃ Fwant47 : Nat → Value, EnvHas e [(0, .pointer (some ⟨bb1, 0, none⟩)), (1, .slice al_46 n_l_46 cl_46), (4, .pointer (some ⟨b9, 0, none⟩)), (5, .slice awant47 n_want47 cwant47)] ∧ St B w0 (⟨pl_46, 0, cl_46 * 32, Fl_46, true⟩ :: ⟨pwant47, 0, cwant47 * 32, Fwant47, true⟩ :: ⟨some b9, 0, 32, fun q => VU .u8 ((upd (upd (fun _ => 0#8) 0 (BitVec.ofNat 8 (bKeys4.length + 1))) 1 (209#8)) q), true⟩ :: ⟨some bb1, 0, 1, fun _ => .slice abLists2 bLists2.length cbLists2, true⟩ :: ⟨pbLists2, 0, cbLists2 * 1, FbLists2, true⟩ :: ⟨some bb1, 1, 1, fun _ => .slice abWant3 bWant3.length cbWant3, true⟩ :: ⟨pbWant3, 0, cbWant3 * 1, FbWant3, true⟩ :: ⟨some bb1, 2, 1, fun _ => .slice abKeys4 bKeys4.length cbKeys4, true⟩ :: ⟨pbKeys4, 0, cbKeys4 * 1, FbKeys4, true⟩ :: ⟨some bb1, 3, 1, fun _ => .slice abWantK5 bWantK5.length cbWantK5, true⟩ :: ⟨pbWantK5, 0, cbWantK5 * 1, FbWantK5, true⟩ :: L) w ∧ LO D61 [] al_46 pl_46 n_l_46 cl_46 Fl_46 y_l_46 ∧ LO D61 [] awant47 pwant47 n_want47 cwant47 Fwant47 y_want47) ?_ ?_
  ·
    refine W.block ?_
    have h50 := St.pickT (C := [_, _, _, _, _, _, _, _, _, _, _]) h49 [10, 0, 1, 2, 3, 4, 5, 6, 7, 8, 9] (by decide)
    simp only [pick, List.filterMap_cons, List.filterMap_nil, List.getElem?_cons_zero, List.getElem?_cons_succ, List.cons_append, List.nil_append] at h50
    refine W.iter hI48 (fun (s48 : ((List (Nat → BitVec 8)) × (List (Nat → BitVec 8)) × Nat)) e w => ∃ n_l_42 : Nat, ∃ al_42 : Option Addr, ∃ pl_42 : Option Nat, ∃ cl_42 : Nat, ∃ Fl_42 : Nat → Value, ∃ n_want43 : Nat, ∃ awant43 : Option Addr, ∃ pwant43 : Option Nat, ∃ cwant43 : Nat, ∃ Fwant43 : Nat → Value, EnvHas e [(0, .pointer (some ⟨bb1, 0, none⟩)), (1, .slice al_42 n_l_42 cl_42), (4, .pointer (some ⟨b9, 0, none⟩)), (5, .slice awant43 n_want43 cwant43), (6, VN s48.2.2)] ∧ St B w0 (⟨pl_42, 0, cl_42 * 32, Fl_42, true⟩ :: ⟨pwant43, 0, cwant43 * 32, Fwant43, true⟩ :: ⟨some b9, 0, 32, fun q => VU .u8 ((upd (upd (fun _ => 0#8) 0 (BitVec.ofNat 8 (bKeys4.length + 1))) 1 (209#8)) q), true⟩ :: ⟨some bb1, 0, 1, fun _ => .slice abLists2 bLists2.length cbLists2, true⟩ :: ⟨pbLists2, 0, cbLists2 * 1, FbLists2, true⟩ :: ⟨some bb1, 1, 1, fun _ => .slice abWant3 bWant3.length cbWant3, true⟩ :: ⟨pbWant3, 0, cbWant3 * 1, FbWant3, true⟩ :: ⟨some bb1, 2, 1, fun _ => .slice abKeys4 bKeys4.length cbKeys4, true⟩ :: ⟨pbKeys4, 0, cbKeys4 * 1, FbKeys4, true⟩ :: ⟨some bb1, 3, 1, fun _ => .slice abWantK5 bWantK5.length cbWantK5, true⟩ :: ⟨pbWantK5, 0, cbWantK5 * 1, FbWantK5, true⟩ :: L) w ∧ LO D61 [] al_42 pl_42 n_l_42 cl_42 Fl_42 s48.1 ∧ LO D61 [] awant43 pwant43 n_want43 cwant43 Fwant43 s48.2.1) ⟨l_6.length, al_6, pl_6, cl_6, Fl_6, 0, none, none, 0, (fun _ => undef), (EnvHas.cons rfl (EnvHas.cons rfl (EnvHas.cons rfl (EnvHas.cons rfl (EnvHas.cons rfl EnvHas.nil))))), h50, hl_6, LO.nil⟩ ?_
    rintro ⟨l_42, want43, i_45⟩ o48 hR hx48 ev51 wl51 ⟨n_l_42, al_42, pl_42, cl_42, Fl_42, n_want43, awant43, pwant43, cwant43, Fwant43, he51, h51, hl_42, hwant43⟩
    try dsimp only at he51 h51 hl_42 hwant43
    obtain rfl : List.length (α := (Nat → BitVec 8)) l_42 = n_l_42 := hl_42.hl
    obtain rfl : List.length (α := (Nat → BitVec 8)) want43 = n_want43 := hwant43.hl
    obtain ⟨ev51, rfl⟩ := he51.open
    unfold lethelaw03_Book_Note32_l0 at hR
    refine W.seq_k fun K52 hK52 => ?_
    refine W.seq_k fun K53 hK53 => ?_
    refine W.regionT [(0, true), (1, true), (2, true), (3, true)] (by kernel_rfl) ?_
    refine Plan.move_int rfl rfl ?_
    refine Plan.move_slice rfl rfl ?_
    refine Plan.len FLaw03.isl62 rfl rfl ?_
    refine Plan.cmpP (a := (((i_45 : Nat) : Int) : Int)) (b := (((l_42.length : Nat) : Int) : Int)) (p := i_45 < l_42.length) rfl rfl rfl rfl icmp_ltN ?_
    refine Plan.nil ?_
    refine hK53 _ _ ?_; clear hK53
    by_cases hc54 : i_45 < l_42.length
    ·
      replace hR := ifT hR hc54
      refine W.condT (congrArg Value.bool (decide_eq_true hc54)) ?_
      refine W.skip ?_
      refine hK52 _ _ ?_; clear hK52
      refine W.seq_k fun K55 hK55 => ?_
      refine W.block ?_
      refine W.seq_k fun K56 hK56 => ?_
      refine W.regionT [(0, true), (1, true), (2, true), (3, true), (4, false)] (by kernel_rfl) ?_
      refine Plan.move_slice rfl rfl ?_
      refine Plan.move_int rfl rfl ?_
      refine Plan.loadA1 h51 2 rfl rfl rfl FLaw03.agg61 ?_
      obtain ⟨hc57, hR⟩ := hR
      refine Plan.idxLVS (D := D61) (j := i_45) h51 (LO.lvf D61_flat hl_42 0 rfl) FLaw03.sl62 rfl rfl rfl hc57 ?_
      refine Plan.storeLO (D := D61) (j := i_45) (sz := 32) h51 () (upd (upd (fun _ => 0#8) 0 (BitVec.ofNat 8 (bKeys4.length + 1))) 1 (209#8)) 0 hl_42 trivial rfl rfl rfl rfl hc57 rfl FLaw03.sz61 (fun _ => EffO.wait rfl) fun w58 F58 ho58 h58 => ?_
      simp only [List.cons_append, List.nil_append, List.set_cons_zero, List.set_cons_succ] at h58
      have e58 : (l_42.set i_45 (upd (upd (fun _ => 0#8) 0 (BitVec.ofNat 8 (bKeys4.length + 1))) 1 (209#8))).length = l_42.length := List.length_set
      refine Plan.nil ?_
      refine hK56 _ _ ?_; clear hK56
      refine W.regionT [(0, true), (1, true), (2, false), (3, false), (4, true)] (by kernel_rfl) ?_
      refine Plan.move_slice rfl rfl ?_
      refine Plan.loadA1 h58 2 rfl rfl rfl FLaw03.agg61 ?_
      refine Plan.buildLO (D := D61) (sz := 32) h58 [((), (upd (upd (fun _ => 0#8) 0 (BitVec.ofNat 8 (bKeys4.length + 1))) 1 (209#8)))] FLaw03.slu62 FLaw03.sz61 FLaw03.zv61 (by decide) (by decide) rfl rfl rfl rfl (fun _ _ => trivial) (EffO.wait rfl) fun b60 w60 F60 hb60 ho60 h60 => ?_
      replace ho60 : LO D61 [] (some ⟨b60, 0, none⟩) (some b60) ([(upd (upd (fun _ => 0#8) 0 (BitVec.ofNat 8 (bKeys4.length + 1))) 1 (209#8))] : List (Nat → BitVec 8)).length 1 F60 ([(upd (upd (fun _ => 0#8) 0 (BitVec.ofNat 8 (bKeys4.length + 1))) 1 (209#8))] : List (Nat → BitVec 8)) := ho60.re (fun _ _ h => h)
      obtain ⟨hc62, hR⟩ := hR
      refine Plan.appendLO (D := D61) (X := want43) (Y := ([(upd (upd (fun _ => 0#8) 0 (BitVec.ofNat 8 (bKeys4.length + 1))) 1 (209#8))] : List (Nat → BitVec 8))) (sz := 32) h60 () (fun _ => 0#8) 2 hwant43 rfl FLaw03.el62 rfl FLaw03.slu62 rfl rfl rfl rfl (LO.lvf D61_flat ho60 0 rfl) (fun _ _ h => h) hc62.1 hc62.2 (fun _ => EffO.keep PIn.nil) fun a61 pb61 cap61 F61 w61 ho61 h61 => ?_
      simp only [List.cons_append, List.nil_append, List.set_cons_zero, List.set_cons_succ] at h61
      replace ho61 : LO D61 [] a61 pb61 (want43 ++ ([(upd (upd (fun _ => 0#8) 0 (BitVec.ofNat 8 (bKeys4.length + 1))) 1 (209#8))] : List (Nat → BitVec 8))).length cap61 F61 (want43 ++ ([(upd (upd (fun _ => 0#8) 0 (BitVec.ofNat 8 (bKeys4.length + 1))) 1 (209#8))] : List (Nat → BitVec 8))) := ho61.re (fun _ _ h => h)
      refine Plan.assign_slice rfl rfl ?_
      refine Plan.nil ?_
      refine blockR_norm ?_
      refine hK55 _ _ ?_; clear hK55
      refine W.regionT [(0, true), (1, true), (2, true)] (by kernel_rfl) ?_
      refine Plan.move_int rfl rfl ?_
      obtain ⟨hc63, hR⟩ := hR
      refine Plan.addN (a := i_45) (b := 1) rfl rfl rfl (by omega) ?_
      refine Plan.assign_int rfl rfl ?_
      refine Plan.nil ?_
      have h64 := St.pickT (C := [_, _, _, _, _, _, _, _, _, _, _, _]) h61 [1, 2, 3, 4, 5, 6, 7, 8, 9, 10, 11] (by decide)
      simp only [pick, List.filterMap_cons, List.filterMap_nil, List.getElem?_cons_zero, List.getElem?_cons_succ, List.cons_append, List.nil_append] at h64
      exact iterR_norm ⟨_, hR, l_42.length, al_42, pl_42, cl_42, F58, (want43 ++ ([(upd (upd (fun _ => 0#8) 0 (BitVec.ofNat 8 (bKeys4.length + 1))) 1 (209#8))] : List (Nat → BitVec 8))).length, a61, pb61, cap61, F61, (EnvHas.cons rfl (EnvHas.cons rfl (EnvHas.cons rfl (EnvHas.cons rfl (EnvHas.cons rfl EnvHas.nil))))), h64, (show LO D61 [] _ _ l_42.length _ _ _ from ho58), ho61⟩
    ·
      replace hR := ifF hR hc54
      refine W.condF (congrArg Value.bool (decide_eq_false hc54)) ?_
      refine W.exit (thenR_exit (iterR_exit (blockR_here ?_)))
      exact ⟨l_42, want43, (hx48 _ hR).symm, l_42.length, al_42, pl_42, cl_42, Fl_42, want43.length, awant43, pwant43, cwant43, Fwant43, (EnvHas.cons rfl (EnvHas.cons rfl (EnvHas.cons rfl (EnvHas.cons rfl EnvHas.nil)))), h51, hl_42, hwant43⟩
  ·
    rintro ev65 wl65 ⟨y_l_46, y_want47, hy65, n_l_46, al_46, pl_46, cl_46, Fl_46, n_want47, awant47, pwant47, cwant47, Fwant47, he65, h65, hl_46, hwant47⟩
    obtain ⟨ev65, rfl⟩ := he65.open
    cases hy65
    replace hR := hR048
    obtain rfl : List.length (α := (Nat → BitVec 8)) l_46 = n_l_46 := hl_46.hl
    obtain rfl : List.length (α := (Nat → BitVec 8)) want47 = n_want47 := hwant47.hl
    refine hK12 _ _ ?_; clear hK12
    refine W.seq_k fun K66 hK66 => ?_
    refine W.regionD FLaw03.mixed [(0, true), (1, true), (2, true), (3, true), (4, true), (5, true), (6, true), (7, true), (8, true), (9, false), (10, false), (11, false), (12, false), (13, true), (14, true), (15, false)] (by kernel_rfl) ?_
    have h67 := h65.drew
    refine Plan.move_ptr rfl rfl ?_
    refine Plan.move_ptr rfl rfl ?_
    refine Plan.nilCheck rfl rfl ?_
    refine Plan.fieldAddr 2 FLaw03.fld78_2 rfl rfl ?_
    refine Plan.load0 h67 7 rfl rfl rfl (by omega) FLaw03.sc76 ?_
    refine Plan.move_slice rfl rfl ?_
    refine Plan.move_slice rfl rfl ?_
    refine Plan.loadA1 h67 2 rfl rfl rfl FLaw03.agg61 ?_
    refine Plan.loadA1 h67 2 rfl rfl rfl FLaw03.agg61 ?_
    refine Plan.buildLO (D := D61) (sz := 32) h67 [((), (upd (upd (fun _ => 0#8) 0 (BitVec.ofNat 8 (bKeys4.length + 1))) 1 (209#8))), ((), (upd (upd (fun _ => 0#8) 0 (BitVec.ofNat 8 (bKeys4.length + 1))) 1 (209#8)))] FLaw03.slu62 FLaw03.sz61 FLaw03.zv61 (by decide) (by decide) rfl rfl rfl rfl (fun _ _ => trivial) (EffO.mix _ (Filt.drop rfl (Filt.drop rfl (Filt.keep rfl Filt.nil))) (PIn.cons 7 rfl PIn.nil)) fun b69 w69 F69 hb69 ho69 h69 => ?_
    replace ho69 : LO D61 [] (some ⟨b69, 0, none⟩) (some b69) ([(upd (upd (fun _ => 0#8) 0 (BitVec.ofNat 8 (bKeys4.length + 1))) 1 (209#8)), (upd (upd (fun _ => 0#8) 0 (BitVec.ofNat 8 (bKeys4.length + 1))) 1 (209#8))] : List (Nat → BitVec 8)).length 2 F69 ([(upd (upd (fun _ => 0#8) 0 (BitVec.ofNat 8 (bKeys4.length + 1))) 1 (209#8)), (upd (upd (fun _ => 0#8) 0 (BitVec.ofNat 8 (bKeys4.length + 1))) 1 (209#8))] : List (Nat → BitVec 8)) := ho69.re (fun _ _ h => h)
    obtain ⟨hc71, hR⟩ := hR
    refine Plan.appendLK (D := D61) (X := l_46) (Y := ([(upd (upd (fun _ => 0#8) 0 (BitVec.ofNat 8 (bKeys4.length + 1))) 1 (209#8)), (upd (upd (fun _ => 0#8) 0 (BitVec.ofNat 8 (bKeys4.length + 1))) 1 (209#8))] : List (Nat → BitVec 8))) (sz := 32) h69 () (fun _ => 0#8) 1 D61_flat hl_46 rfl FLaw03.el62 rfl FLaw03.slu62 rfl rfl rfl rfl (LO.lvf D61_flat ho69 0 rfl) hc71.1 hc71.2 (fun _ _ => EffO.keep (PIn.cons 9 rfl PIn.nil)) fun a70 pb70 cap70 F70 r70 iz70 w70 ho70 hi70 hv70 h70 => ?_
    simp only [List.cons_append, List.nil_append, List.set_cons_zero, List.set_cons_succ] at h70 hv70
    have h74 := St.pickT (C := [_, _, _, _, _, _, _, _, _, _, _, _, _]) h70 [1, 3, 4, 5, 6, 7, 8, 9, 10, 11, 12, 0, 2] (by decide)
    simp only [pick, List.filterMap_cons, List.filterMap_nil, List.getElem?_cons_zero, List.getElem?_cons_succ, List.cons_append, List.nil_append] at h74
    obtain ⟨L, hL75⟩ : ∃ X, X = [⟨pb70, 0, cap70 * 32, F70, true⟩, r70] ++ L := ⟨_, rfl⟩
    obtain ⟨LP, hQ75⟩ : ∃ X, X = [⟨pb70, 0, cap70 * 32, F70, true⟩, r70] ++ LP := ⟨_, rfl⟩
    replace hLP : ∀ r ∈ LP, r ∈ L := by rw [hQ75, hL75]; exact frMemGrow hLP
    have h75 := St.re (N := [_, _, _, _, _, _, _, _, _, _, _]) hL75 h74
    simp only [List.cons_append, List.nil_append] at h75
    replace hFr : Fr2 _ _ L LP := hFr.step hL75 hQ75
    have ho76 : LO (D22.at LP) [] abLists2 pbLists2 (bLists2).length cbLists2 FbLists2 bLists2 := by rw [hQ75]; exact LO.grow D22_lifts (fun r hr => List.mem_append_right _ hr) hbLists2
    have ho77 : LO (D22.at LP) [] abWant3 pbWant3 (bWant3).length cbWant3 FbWant3 bWant3 := by rw [hQ75]; exact LO.grow D22_lifts (fun r hr => List.mem_append_right _ hr) hbWant3
    have ho78 : LO (D62.at LP) [] abKeys4 pbKeys4 (bKeys4).length cbKeys4 FbKeys4 bKeys4 := by rw [hQ75]; exact LO.grow D62_lifts (fun r hr => List.mem_append_right _ hr) hbKeys4
    have ho79 : LO (D62.at LP) [] abWantK5 pbWantK5 (bWantK5).length cbWantK5 FbWantK5 bWantK5 := by rw [hQ75]; exact LO.grow D62_lifts (fun r hr => List.mem_append_right _ hr) hbWantK5
    obtain ⟨ix80, hv80⟩ : ∃ i, LV D61 L i al_46 l_46.length cl_46 l_46 := ⟨_, by rw [hL75]; exact (LV.two (L' := [_, _] ++ _) (j1 := 0) (j2 := 1) D61_flat hv70 hi70 rfl rfl rfl rfl)⟩
    have hp80 : ∃ i, LV D61 LP i al_46 l_46.length cl_46 l_46 := ⟨_, by rw [hQ75]; exact (LV.two (L' := [_, _] ++ _) (j1 := 0) (j2 := 1) D61_flat hv70 hi70 rfl rfl rfl rfl)⟩
    obtain ⟨ix81, hv81⟩ : ∃ i, LV D61 L i a70 ((l_46 ++ ([(upd (upd (fun _ => 0#8) 0 (BitVec.ofNat 8 (bKeys4.length + 1))) 1 (209#8)), (upd (upd (fun _ => 0#8) 0 (BitVec.ofNat 8 (bKeys4.length + 1))) 1 (209#8))] : List (Nat → BitVec 8))).length) cap70 (l_46 ++ ([(upd (upd (fun _ => 0#8) 0 (BitVec.ofNat 8 (bKeys4.length + 1))) 1 (209#8)), (upd (upd (fun _ => 0#8) 0 (BitVec.ofNat 8 (bKeys4.length + 1))) 1 (209#8))] : List (Nat → BitVec 8))) := ⟨_, by rw [hL75]; exact (LO.lvf D61_flat ho70 0 rfl)⟩
    have hp81 : ∃ i, LV D61 LP i a70 ((l_46 ++ ([(upd (upd (fun _ => 0#8) 0 (BitVec.ofNat 8 (bKeys4.length + 1))) 1 (209#8)), (upd (upd (fun _ => 0#8) 0 (BitVec.ofNat 8 (bKeys4.length + 1))) 1 (209#8))] : List (Nat → BitVec 8))).length) cap70 (l_46 ++ ([(upd (upd (fun _ => 0#8) 0 (BitVec.ofNat 8 (bKeys4.length + 1))) 1 (209#8)), (upd (upd (fun _ => 0#8) 0 (BitVec.ofNat 8 (bKeys4.length + 1))) 1 (209#8))] : List (Nat → BitVec 8))) := ⟨_, by rw [hQ75]; exact (LO.lvf D61_flat ho70 0 rfl)⟩
    refine Plan.buildLO (D := (D62.at LP)) (sz := 1) h75 [((al_46, l_46.length, cl_46), (l_46 : (List (Nat → BitVec 8)))), ((a70, (l_46 ++ ([(upd (upd (fun _ => 0#8) 0 (BitVec.ofNat 8 (bKeys4.length + 1))) 1 (209#8)), (upd (upd (fun _ => 0#8) 0 (BitVec.ofNat 8 (bKeys4.length + 1))) 1 (209#8))] : List (Nat → BitVec 8))).length, cap70), ((l_46 ++ ([(upd (upd (fun _ => 0#8) 0 (BitVec.ofNat 8 (bKeys4.length + 1))) 1 (209#8)), (upd (upd (fun _ => 0#8) 0 (BitVec.ofNat 8 (bKeys4.length + 1))) 1 (209#8))] : List (Nat → BitVec 8))) : (List (Nat → BitVec 8))))] FLaw03.slu76 FLaw03.sz62 FLaw03.zv62 (by decide) (by decide) rfl rfl rfl rfl (by exact (List.forall_mem_cons.2 ⟨hp80, (List.forall_mem_cons.2 ⟨hp81, (fun _ h => nomatch h)⟩)⟩)) (EffO.keep (PIn.cons 7 rfl PIn.nil)) fun b73 w73 F73 hb73 ho73 h73 => ?_
    replace ho73 : LO (D62.at LP) [] (some ⟨b73, 0, none⟩) (some b73) ([l_46, (l_46 ++ ([(upd (upd (fun _ => 0#8) 0 (BitVec.ofNat 8 (bKeys4.length + 1))) 1 (209#8)), (upd (upd (fun _ => 0#8) 0 (BitVec.ofNat 8 (bKeys4.length + 1))) 1 (209#8))] : List (Nat → BitVec 8)))] : List (List (Nat → BitVec 8))).length 2 F73 ([l_46, (l_46 ++ ([(upd (upd (fun _ => 0#8) 0 (BitVec.ofNat 8 (bKeys4.length + 1))) 1 (209#8)), (upd (upd (fun _ => 0#8) 0 (BitVec.ofNat 8 (bKeys4.length + 1))) 1 (209#8))] : List (Nat → BitVec 8)))] : List (List (Nat → BitVec 8))) := ho73.re (fun _ _ h => h)
    obtain ⟨hc83, hR⟩ := hR
    refine Plan.appendLO (D := (D62.at LP)) (X := bKeys4) (Y := ([l_46, (l_46 ++ ([(upd (upd (fun _ => 0#8) 0 (BitVec.ofNat 8 (bKeys4.length + 1))) 1 (209#8)), (upd (upd (fun _ => 0#8) 0 (BitVec.ofNat 8 (bKeys4.length + 1))) 1 (209#8))] : List (Nat → BitVec 8)))] : List (List (Nat → BitVec 8)))) (sz := 1) h73 (none, 0, 0) ([] : List (Nat → BitVec 8)) 9 ho78 rfl FLaw03.el76 rfl FLaw03.slu76 rfl rfl rfl rfl (LO.lvf EL.at_flat ho73 0 rfl) (fun _ _ h => h) hc83.1 hc83.2 (fun _ => EffO.wait rfl) fun a82 pb82 cap82 F82 w82 ho82 h82 => ?_
    simp only [List.cons_append, List.nil_append, List.set_cons_zero, List.set_cons_succ] at h82
    replace ho82 : LO (D62.at LP) [] a82 pb82 (bKeys4 ++ ([l_46, (l_46 ++ ([(upd (upd (fun _ => 0#8) 0 (BitVec.ofNat 8 (bKeys4.length + 1))) 1 (209#8)), (upd (upd (fun _ => 0#8) 0 (BitVec.ofNat 8 (bKeys4.length + 1))) 1 (209#8))] : List (Nat → BitVec 8)))] : List (List (Nat → BitVec 8)))).length cap82 F82 (bKeys4 ++ ([l_46, (l_46 ++ ([(upd (upd (fun _ => 0#8) 0 (BitVec.ofNat 8 (bKeys4.length + 1))) 1 (209#8)), (upd (upd (fun _ => 0#8) 0 (BitVec.ofNat 8 (bKeys4.length + 1))) 1 (209#8))] : List (Nat → BitVec 8)))] : List (List (Nat → BitVec 8)))) := ho82.re (fun _ _ h => h)
    refine Plan.nilCheck rfl rfl ?_
    refine Plan.fieldAddr 2 FLaw03.fld78_2 rfl rfl ?_
    refine Plan.storeC h82 8 rfl rfl rfl rfl rfl FLaw03.sz76 rfl fun w84 h84 => ?_
    simp only [List.cons_append, List.nil_append, List.set_cons_zero, List.set_cons_succ] at h84
    refine Plan.nil ?_
    refine hK66 _ _ ?_; clear hK66
    refine W.regionD FLaw03.mixed [(0, true), (1, true), (2, true), (3, true), (4, true), (5, true), (6, true), (7, true), (8, true), (9, false), (10, false), (11, false), (12, false), (13, true), (14, true), (15, false)] (by kernel_rfl) ?_
    have h85 := h84.drew
    refine Plan.move_ptr rfl rfl ?_
    refine Plan.move_ptr rfl rfl ?_
    refine Plan.nilCheck rfl rfl ?_
    refine Plan.fieldAddr 3 FLaw03.fld78_3 rfl rfl ?_
    refine Plan.load0 h85 10 rfl rfl rfl (by omega) FLaw03.sc76 ?_
    refine Plan.move_slice rfl rfl ?_
    refine Plan.move_slice rfl rfl ?_
    refine Plan.loadA1 h85 3 rfl rfl rfl FLaw03.agg61 ?_
    refine Plan.loadA1 h85 3 rfl rfl rfl FLaw03.agg61 ?_
    refine Plan.buildLO (D := D61) (sz := 32) h85 [((), (upd (upd (fun _ => 0#8) 0 (BitVec.ofNat 8 (bKeys4.length + 1))) 1 (209#8))), ((), (upd (upd (fun _ => 0#8) 0 (BitVec.ofNat 8 (bKeys4.length + 1))) 1 (209#8)))] FLaw03.slu62 FLaw03.sz61 FLaw03.zv61 (by decide) (by decide) rfl rfl rfl rfl (fun _ _ => trivial) (EffO.mix _ (Filt.drop rfl (Filt.drop rfl (Filt.keep rfl Filt.nil))) (PIn.cons 10 rfl PIn.nil)) fun b87 w87 F87 hb87 ho87 h87 => ?_
    replace ho87 : LO D61 [] (some ⟨b87, 0, none⟩) (some b87) ([(upd (upd (fun _ => 0#8) 0 (BitVec.ofNat 8 (bKeys4.length + 1))) 1 (209#8)), (upd (upd (fun _ => 0#8) 0 (BitVec.ofNat 8 (bKeys4.length + 1))) 1 (209#8))] : List (Nat → BitVec 8)).length 2 F87 ([(upd (upd (fun _ => 0#8) 0 (BitVec.ofNat 8 (bKeys4.length + 1))) 1 (209#8)), (upd (upd (fun _ => 0#8) 0 (BitVec.ofNat 8 (bKeys4.length + 1))) 1 (209#8))] : List (Nat → BitVec 8)) := ho87.re (fun _ _ h => h)
    obtain ⟨hc89, hR⟩ := hR
    refine Plan.appendLK (D := D61) (X := want47) (Y := ([(upd (upd (fun _ => 0#8) 0 (BitVec.ofNat 8 (bKeys4.length + 1))) 1 (209#8)), (upd (upd (fun _ => 0#8) 0 (BitVec.ofNat 8 (bKeys4.length + 1))) 1 (209#8))] : List (Nat → BitVec 8))) (sz := 32) h87 () (fun _ => 0#8) 3 D61_flat hwant47 rfl FLaw03.el62 rfl FLaw03.slu62 rfl rfl rfl rfl (LO.lvf D61_flat ho87 0 rfl) hc89.1 hc89.2 (fun _ _ => EffO.keep (PIn.cons 12 rfl PIn.nil)) fun a88 pb88 cap88 F88 r88 iz88 w88 ho88 hi88 hv88 h88 => ?_
    simp only [List.cons_append, List.nil_append, List.set_cons_zero, List.set_cons_succ] at h88 hv88
    have h92 := St.pickT (C := [_, _, _, _, _, _, _, _, _, _, _, _, _, _]) h88 [1, 2, 3, 5, 6, 7, 8, 9, 10, 11, 12, 13, 0, 4] (by decide)
    simp only [pick, List.filterMap_cons, List.filterMap_nil, List.getElem?_cons_zero, List.getElem?_cons_succ, List.cons_append, List.nil_append] at h92
    obtain ⟨L, hL93⟩ : ∃ X, X = [⟨pb88, 0, cap88 * 32, F88, true⟩, r88] ++ L := ⟨_, rfl⟩
    obtain ⟨LP, hQ93⟩ : ∃ X, X = [⟨pb88, 0, cap88 * 32, F88, true⟩, r88] ++ LP := ⟨_, rfl⟩
    replace hLP : ∀ r ∈ LP, r ∈ L := by rw [hQ93, hL93]; exact frMemGrow hLP
    have h93 := St.re (N := [_, _, _, _, _, _, _, _, _, _, _, _]) hL93 h92
    simp only [List.cons_append, List.nil_append] at h93
    replace hFr : Fr2 _ _ L LP := hFr.step hL93 hQ93
    obtain ⟨ix94, hv94⟩ : ∃ i, LV D61 L i al_46 l_46.length cl_46 l_46 := ⟨_, by rw [hL93]; exact hv80.app _⟩
    have hp94 : ∃ i, LV D61 LP i al_46 l_46.length cl_46 l_46 := by rw [hQ93]; exact ⟨_, hp80.choose_spec.app _⟩
    obtain ⟨ix95, hv95⟩ : ∃ i, LV D61 L i a70 ((l_46 ++ ([(upd (upd (fun _ => 0#8) 0 (BitVec.ofNat 8 (bKeys4.length + 1))) 1 (209#8)), (upd (upd (fun _ => 0#8) 0 (BitVec.ofNat 8 (bKeys4.length + 1))) 1 (209#8))] : List (Nat → BitVec 8))).length) cap70 (l_46 ++ ([(upd (upd (fun _ => 0#8) 0 (BitVec.ofNat 8 (bKeys4.length + 1))) 1 (209#8)), (upd (upd (fun _ => 0#8) 0 (BitVec.ofNat 8 (bKeys4.length + 1))) 1 (209#8))] : List (Nat → BitVec 8))) := ⟨_, by rw [hL93]; exact hv81.app _⟩
    have hp95 : ∃ i, LV D61 LP i a70 ((l_46 ++ ([(upd (upd (fun _ => 0#8) 0 (BitVec.ofNat 8 (bKeys4.length + 1))) 1 (209#8)), (upd (upd (fun _ => 0#8) 0 (BitVec.ofNat 8 (bKeys4.length + 1))) 1 (209#8))] : List (Nat → BitVec 8))).length) cap70 (l_46 ++ ([(upd (upd (fun _ => 0#8) 0 (BitVec.ofNat 8 (bKeys4.length + 1))) 1 (209#8)), (upd (upd (fun _ => 0#8) 0 (BitVec.ofNat 8 (bKeys4.length + 1))) 1 (209#8))] : List (Nat → BitVec 8))) := by rw [hQ93]; exact ⟨_, hp81.choose_spec.app _⟩
    have ho96 : LO (D62.at LP) [] (some ⟨b73, 0, none⟩) (some b73) (([l_46, (l_46 ++ ([(upd (upd (fun _ => 0#8) 0 (BitVec.ofNat 8 (bKeys4.length + 1))) 1 (209#8)), (upd (upd (fun _ => 0#8) 0 (BitVec.ofNat 8 (bKeys4.length + 1))) 1 (209#8))] : List (Nat → BitVec 8)))] : List (List (Nat → BitVec 8)))).length 2 F73 ([l_46, (l_46 ++ ([(upd (upd (fun _ => 0#8) 0 (BitVec.ofNat 8 (bKeys4.length + 1))) 1 (209#8)), (upd (upd (fun _ => 0#8) 0 (BitVec.ofNat 8 (bKeys4.length + 1))) 1 (209#8))] : List (Nat → BitVec 8)))] : List (List (Nat → BitVec 8))) := by rw [hQ93]; exact LO.grow D62_lifts (fun r hr => List.mem_append_right _ hr) ho73
    have ho97 : LO (D22.at LP) [] abLists2 pbLists2 (bLists2).length cbLists2 FbLists2 bLists2 := by rw [hQ93]; exact LO.grow D22_lifts (fun r hr => List.mem_append_right _ hr) ho76
    have ho98 : LO (D22.at LP) [] abWant3 pbWant3 (bWant3).length cbWant3 FbWant3 bWant3 := by rw [hQ93]; exact LO.grow D22_lifts (fun r hr => List.mem_append_right _ hr) ho77
    have ho99 : LO (D62.at LP) [] a82 pb82 ((bKeys4 ++ ([l_46, (l_46 ++ ([(upd (upd (fun _ => 0#8) 0 (BitVec.ofNat 8 (bKeys4.length + 1))) 1 (209#8)), (upd (upd (fun _ => 0#8) 0 (BitVec.ofNat 8 (bKeys4.length + 1))) 1 (209#8))] : List (Nat → BitVec 8)))] : List (List (Nat → BitVec 8))))).length cap82 F82 (bKeys4 ++ ([l_46, (l_46 ++ ([(upd (upd (fun _ => 0#8) 0 (BitVec.ofNat 8 (bKeys4.length + 1))) 1 (209#8)), (upd (upd (fun _ => 0#8) 0 (BitVec.ofNat 8 (bKeys4.length + 1))) 1 (209#8))] : List (Nat → BitVec 8)))] : List (List (Nat → BitVec 8)))) := by rw [hQ93]; exact LO.grow D62_lifts (fun r hr => List.mem_append_right _ hr) ho82
    have ho100 : LO (D62.at LP) [] abWantK5 pbWantK5 (bWantK5).length cbWantK5 FbWantK5 bWantK5 := by rw [hQ93]; exact LO.grow D62_lifts (fun r hr => List.mem_append_right _ hr) ho79
    obtain ⟨ix101, hv101⟩ : ∃ i, LV D61 L i awant47 want47.length cwant47 want47 := ⟨_, by rw [hL93]; exact (LV.two (L' := [_, _] ++ _) (j1 := 0) (j2 := 1) D61_flat hv88 hi88 rfl rfl rfl rfl)⟩
    have hp101 : ∃ i, LV D61 LP i awant47 want47.length cwant47 want47 := ⟨_, by rw [hQ93]; exact (LV.two (L' := [_, _] ++ _) (j1 := 0) (j2 := 1) D61_flat hv88 hi88 rfl rfl rfl rfl)⟩
    obtain ⟨ix102, hv102⟩ : ∃ i, LV D61 L i a88 ((want47 ++ ([(upd (upd (fun _ => 0#8) 0 (BitVec.ofNat 8 (bKeys4.length + 1))) 1 (209#8)), (upd (upd (fun _ => 0#8) 0 (BitVec.ofNat 8 (bKeys4.length + 1))) 1 (209#8))] : List (Nat → BitVec 8))).length) cap88 (want47 ++ ([(upd (upd (fun _ => 0#8) 0 (BitVec.ofNat 8 (bKeys4.length + 1))) 1 (209#8)), (upd (upd (fun _ => 0#8) 0 (BitVec.ofNat 8 (bKeys4.length + 1))) 1 (209#8))] : List (Nat → BitVec 8))) := ⟨_, by rw [hL93]; exact (LO.lvf D61_flat ho88 0 rfl)⟩
    have hp102 : ∃ i, LV D61 LP i a88 ((want47 ++ ([(upd (upd (fun _ => 0#8) 0 (BitVec.ofNat 8 (bKeys4.length + 1))) 1 (209#8)), (upd (upd (fun _ => 0#8) 0 (BitVec.ofNat 8 (bKeys4.length + 1))) 1 (209#8))] : List (Nat → BitVec 8))).length) cap88 (want47 ++ ([(upd (upd (fun _ => 0#8) 0 (BitVec.ofNat 8 (bKeys4.length + 1))) 1 (209#8)), (upd (upd (fun _ => 0#8) 0 (BitVec.ofNat 8 (bKeys4.length + 1))) 1 (209#8))] : List (Nat → BitVec 8))) := ⟨_, by rw [hQ93]; exact (LO.lvf D61_flat ho88 0 rfl)⟩
    refine Plan.buildLO (D := (D62.at LP)) (sz := 1) h93 [((awant47, want47.length, cwant47), (want47 : (List (Nat → BitVec 8)))), ((a88, (want47 ++ ([(upd (upd (fun _ => 0#8) 0 (BitVec.ofNat 8 (bKeys4.length + 1))) 1 (209#8)), (upd (upd (fun _ => 0#8) 0 (BitVec.ofNat 8 (bKeys4.length + 1))) 1 (209#8))] : List (Nat → BitVec 8))).length, cap88), ((want47 ++ ([(upd (upd (fun _ => 0#8) 0 (BitVec.ofNat 8 (bKeys4.length + 1))) 1 (209#8)), (upd (upd (fun _ => 0#8) 0 (BitVec.ofNat 8 (bKeys4.length + 1))) 1 (209#8))] : List (Nat → BitVec 8))) : (List (Nat → BitVec 8))))] FLaw03.slu76 FLaw03.sz62 FLaw03.zv62 (by decide) (by decide) rfl rfl rfl rfl (by exact (List.forall_mem_cons.2 ⟨hp101, (List.forall_mem_cons.2 ⟨hp102, (fun _ h => nomatch h)⟩)⟩)) (EffO.keep (PIn.cons 10 rfl PIn.nil)) fun b91 w91 F91 hb91 ho91 h91 => ?_
    replace ho91 : LO (D62.at LP) [] (some ⟨b91, 0, none⟩) (some b91) ([want47, (want47 ++ ([(upd (upd (fun _ => 0#8) 0 (BitVec.ofNat 8 (bKeys4.length + 1))) 1 (209#8)), (upd (upd (fun _ => 0#8) 0 (BitVec.ofNat 8 (bKeys4.length + 1))) 1 (209#8))] : List (Nat → BitVec 8)))] : List (List (Nat → BitVec 8))).length 2 F91 ([want47, (want47 ++ ([(upd (upd (fun _ => 0#8) 0 (BitVec.ofNat 8 (bKeys4.length + 1))) 1 (209#8)), (upd (upd (fun _ => 0#8) 0 (BitVec.ofNat 8 (bKeys4.length + 1))) 1 (209#8))] : List (Nat → BitVec 8)))] : List (List (Nat → BitVec 8))) := ho91.re (fun _ _ h => h)
    obtain ⟨hc104, hR⟩ := hR
    refine Plan.appendLO (D := (D62.at LP)) (X := bWantK5) (Y := ([want47, (want47 ++ ([(upd (upd (fun _ => 0#8) 0 (BitVec.ofNat 8 (bKeys4.length + 1))) 1 (209#8)), (upd (upd (fun _ => 0#8) 0 (BitVec.ofNat 8 (bKeys4.length + 1))) 1 (209#8))] : List (Nat → BitVec 8)))] : List (List (Nat → BitVec 8)))) (sz := 1) h91 (none, 0, 0) ([] : List (Nat → BitVec 8)) 12 ho100 rfl FLaw03.el76 rfl FLaw03.slu76 rfl rfl rfl rfl (LO.lvf EL.at_flat ho91 0 rfl) (fun _ _ h => h) hc104.1 hc104.2 (fun _ => EffO.wait rfl) fun a103 pb103 cap103 F103 w103 ho103 h103 => ?_
    simp only [List.cons_append, List.nil_append, List.set_cons_zero, List.set_cons_succ] at h103
    replace ho103 : LO (D62.at LP) [] a103 pb103 (bWantK5 ++ ([want47, (want47 ++ ([(upd (upd (fun _ => 0#8) 0 (BitVec.ofNat 8 (bKeys4.length + 1))) 1 (209#8)), (upd (upd (fun _ => 0#8) 0 (BitVec.ofNat 8 (bKeys4.length + 1))) 1 (209#8))] : List (Nat → BitVec 8)))] : List (List (Nat → BitVec 8)))).length cap103 F103 (bWantK5 ++ ([want47, (want47 ++ ([(upd (upd (fun _ => 0#8) 0 (BitVec.ofNat 8 (bKeys4.length + 1))) 1 (209#8)), (upd (upd (fun _ => 0#8) 0 (BitVec.ofNat 8 (bKeys4.length + 1))) 1 (209#8))] : List (Nat → BitVec 8)))] : List (List (Nat → BitVec 8)))) := ho103.re (fun _ _ h => h)
    refine Plan.nilCheck rfl rfl ?_
    refine Plan.fieldAddr 3 FLaw03.fld78_3 rfl rfl ?_
    refine Plan.storeC h103 11 rfl rfl rfl rfl rfl FLaw03.sz76 rfl fun w105 h105 => ?_
    simp only [List.cons_append, List.nil_append, List.set_cons_zero, List.set_cons_succ] at h105
    refine Plan.nil ?_
    refine finR_norm ?_
    have h106 := St.pickT (C := [_, _, _, _, _, _, _, _, _, _, _, _, _]) h105 [5, 6, 7, 8, 9, 10, 11, 12] (by decide)
    simp only [pick, List.filterMap_cons, List.filterMap_nil, List.getElem?_cons_zero, List.getElem?_cons_succ, List.cons_append, List.nil_append] at h106
    subst r
    refine RetOk.mk .nil ?_
    obtain ⟨CF, hx1, hx2⟩ := hFr
    subst hx1
    subst hx2
    exact ⟨_, abLists2, pbLists2, bLists2.length, cbLists2, FbLists2, abWant3, pbWant3, bWant3.length, cbWant3, FbWant3, a82, pb82, (bKeys4 ++ ([l_46, (l_46 ++ ([(upd (upd (fun _ => 0#8) 0 (BitVec.ofNat 8 (bKeys4.length + 1))) 1 (209#8)), (upd (upd (fun _ => 0#8) 0 (BitVec.ofNat 8 (bKeys4.length + 1))) 1 (209#8))] : List (Nat → BitVec 8)))] : List (List (Nat → BitVec 8)))).length, cap82, F82, a103, pb103, (bWantK5 ++ ([want47, (want47 ++ ([(upd (upd (fun _ => 0#8) 0 (BitVec.ofNat 8 (bKeys4.length + 1))) 1 (209#8)), (upd (upd (fun _ => 0#8) 0 (BitVec.ofNat 8 (bKeys4.length + 1))) 1 (209#8))] : List (Nat → BitVec 8)))] : List (List (Nat → BitVec 8)))).length, cap103, F103, rfl, h106, ho97, ho98, ho99, ho103⟩


set_option maxRecDepth 8000 in
set_option maxHeartbeats 1000000 in
theorem lethelaw03_Book_keys_ok {B : Nat} {w0 w : World} {L : List Rg} {iG0 : Nat} (hG0 : L[iG0]? = some ⟨some 0, 0, 64, fun q => VU .u32 (K256 q), false⟩) {iG1 : Nat} (hG1 : L[iG1]? = some ⟨some 1, 0, 8, fun q => VU .u32 (H256 q), false⟩) {iG2 : Nat} (hG2 : L[iG2]? = some ⟨some 2, 0, 64, fun q => VU .u64 (K64 q), false⟩) {iG3 : Nat} (hG3 : L[iG3]? = some ⟨some 3, 0, 8, fun q => VU .u64 (H64 q), false⟩) {LP : List Rg} (hLP : ∀ r ∈ LP, r ∈ L) {bb1 : Nat} {bLists2 : List (List Byte)} {abLists2 : Option Addr} {pbLists2 : Option Nat} {nbLists2 cbLists2 : Nat} {FbLists2 : Nat → Value} (hbLists2 : LO (D22.at LP) [] abLists2 pbLists2 nbLists2 cbLists2 FbLists2 bLists2) {bWant3 : List (List Byte)} {abWant3 : Option Addr} {pbWant3 : Option Nat} {nbWant3 cbWant3 : Nat} {FbWant3 : Nat → Value} (hbWant3 : LO (D22.at LP) [] abWant3 pbWant3 nbWant3 cbWant3 FbWant3 bWant3) {bKeys4 : List (List (Nat → BitVec 8))} {abKeys4 : Option Addr} {pbKeys4 : Option Nat} {nbKeys4 cbKeys4 : Nat} {FbKeys4 : Nat → Value} (hbKeys4 : LO (D62.at LP) [] abKeys4 pbKeys4 nbKeys4 cbKeys4 FbKeys4 bKeys4) {bWantK5 : List (List (Nat → BitVec 8))} {abWantK5 : Option Addr} {pbWantK5 : Option Nat} {nbWantK5 cbWantK5 : Nat} {FbWantK5 : Nat → Value} (hbWantK5 : LO (D62.at LP) [] abWantK5 pbWantK5 nbWantK5 cbWantK5 FbWantK5 bWantK5) {key6 : List Byte} {akey6 : Option Addr} {nkey6 ckey6 ikey6 : Nat} (hkey6 : Bx L ikey6 akey6 nkey6 ckey6 key6) {x_7 : List Byte} {ax_7 : Option Addr} {nx_7 cx_7 ix_7 : Nat} (hx_7 : Bx L ix_7 ax_7 nx_7 cx_7 x_7) {y8 : List Byte} {ay8 : Option Addr} {ny8 cy8 iy8 : Nat} (hy8 : Bx L iy8 ay8 ny8 cy8 y8) {n_9 : Int} {r : (Bool × (List (List Byte)) × (List (List Byte)) × (List (List (Nat → BitVec 8))) × (List (List (Nat → BitVec 8))))} (hR : lethelaw03_Book_keys bLists2 bWant3 bKeys4 bWantK5 key6 x_7 y8 n_9 r) (HST : St B w0 (⟨some bb1, 0, 1, fun _ => .slice abLists2 nbLists2 cbLists2, true⟩ :: ⟨pbLists2, 0, cbLists2 * 1, FbLists2, true⟩ :: ⟨some bb1, 1, 1, fun _ => .slice abWant3 nbWant3 cbWant3, true⟩ :: ⟨pbWant3, 0, cbWant3 * 1, FbWant3, true⟩ :: ⟨some bb1, 2, 1, fun _ => .slice abKeys4 nbKeys4 cbKeys4, true⟩ :: ⟨pbKeys4, 0, cbKeys4 * 1, FbKeys4, true⟩ :: ⟨some bb1, 3, 1, fun _ => .slice abWantK5 nbWantK5 cbWantK5, true⟩ :: ⟨pbWantK5, 0, cbWantK5 * 1, FbWantK5, true⟩ :: L) w) :
    Calls Tryd.prog 62 #[.pointer (some ⟨bb1, 0, none⟩), .slice akey6 nkey6 ckey6, .slice ax_7 nx_7 cx_7, .slice ay8 ny8 cy8, .int .i64 n_9] w fun e w' => ∃ C : List Rg, ∃ aqbLists2 : Option Addr, ∃ pqbLists2 : Option Nat, ∃ nqbLists2 : Nat, ∃ cqbLists2 : Nat, ∃ FqbLists2 : Nat → Value, ∃ aqbWant3 : Option Addr, ∃ pqbWant3 : Option Nat, ∃ nqbWant3 : Nat, ∃ cqbWant3 : Nat, ∃ FqbWant3 : Nat → Value, ∃ aqbKeys4 : Option Addr, ∃ pqbKeys4 : Option Nat, ∃ nqbKeys4 : Nat, ∃ cqbKeys4 : Nat, ∃ FqbKeys4 : Nat → Value, ∃ aqbWantK5 : Option Addr, ∃ pqbWantK5 : Option Nat, ∃ nqbWantK5 : Nat, ∃ cqbWantK5 : Nat, ∃ FqbWantK5 : Nat → Value, e = .returned (.bool r.1) ∧ St B w0 (⟨some bb1, 0, 1, fun _ => .slice aqbLists2 nqbLists2 cqbLists2, true⟩ :: ⟨pqbLists2, 0, cqbLists2 * 1, FqbLists2, true⟩ :: ⟨some bb1, 1, 1, fun _ => .slice aqbWant3 nqbWant3 cqbWant3, true⟩ :: ⟨pqbWant3, 0, cqbWant3 * 1, FqbWant3, true⟩ :: ⟨some bb1, 2, 1, fun _ => .slice aqbKeys4 nqbKeys4 cqbKeys4, true⟩ :: ⟨pqbKeys4, 0, cqbKeys4 * 1, FqbKeys4, true⟩ :: ⟨some bb1, 3, 1, fun _ => .slice aqbWantK5 nqbWantK5 cqbWantK5, true⟩ :: ⟨pqbWantK5, 0, cqbWantK5 * 1, FqbWantK5, true⟩ :: (C ++ L)) w' ∧ LO (D22.at (C ++ LP)) [] aqbLists2 pqbLists2 nqbLists2 cqbLists2 FqbLists2 r.2.1 ∧ LO (D22.at (C ++ LP)) [] aqbWant3 pqbWant3 nqbWant3 cqbWant3 FqbWant3 r.2.2.1 ∧ LO (D62.at (C ++ LP)) [] aqbKeys4 pqbKeys4 nqbKeys4 cqbKeys4 FqbKeys4 r.2.2.2.1 ∧ LO (D62.at (C ++ LP)) [] aqbWantK5 pqbWantK5 nqbWantK5 cqbWantK5 FqbWantK5 r.2.2.2.2 := by
  refine W.enter 60 Tryd.func62 rfl rfl rfl ?_
  unfold lethelaw03_Book_keys at hR
  have hFr : Fr2 L LP L LP := Fr2.refl _ _
  have ebLists2 := hbLists2.hl; subst ebLists2
  have ebWant3 := hbWant3.hl; subst ebWant3
  have ebKeys4 := hbKeys4.hl; subst ebKeys4
  have ebWantK5 := hbWantK5.hl; subst ebWantK5
  have ekey6 := hkey6.hl; subst ekey6
  have ex_7 := hx_7.hl; subst ex_7
  have ey8 := hy8.hl; subst ey8
  refine W.seq_k fun K10 hK10 => ?_
  refine W.regionT [(0, true)] (by kernel_rfl) ?_
  refine Plan.assign_bool rfl rfl ?_
  refine Plan.nil ?_
  refine hK10 _ _ ?_; clear hK10
  refine W.seq_k fun K11 hK11 => ?_
  refine W.regionT [(0, true), (1, true), (2, true), (3, true), (4, false), (5, true), (6, true), (7, true), (8, true), (9, true)] (by kernel_rfl) ?_
  refine Plan.move_slice rfl rfl ?_
  refine Plan.move_slice rfl rfl ?_
  refine Plan.move_slice rfl rfl ?_
  refine Plan.move_int rfl rfl ?_
  obtain ⟨x_13, x_14, hr12, hR⟩ := hR
  refine Plan.call (vs := [.slice akey6 key6.length ckey6, .slice ax_7 x_7.length cx_7, .slice ay8 y8.length cy8, .int .i64 n_9]) rfl FLaw03.call45 rfl (kdf_Keys_ok (iG0 := iG0 + 8) hG0 (iG1 := iG1 + 8) hG1 (hkey6.app [_, _, _, _, _, _, _, _]) (hx_7.app [_, _, _, _, _, _, _, _]) (hy8.app [_, _, _, _, _, _, _, _]) hr12 HST) ?_
  rintro _ w20 ⟨ay0_15, py0_16, ny0_17, cy0_18, Fy0_19, rfl, h20, hf20_0⟩
  try dsimp only at hf20_0
  obtain rfl := hf20_0.hl
  refine ⟨_, rfl, .inl ⟨PIn.keep PIn.nil h20, ?_⟩⟩
  refine Plan.move_tuple rfl rfl ?_
  refine Plan.extract_slice rfl rfl rfl ?_
  refine Plan.extract_int rfl rfl rfl ?_
  refine Plan.assign_slice rfl rfl ?_
  refine Plan.assign_int rfl rfl ?_
  refine Plan.nil ?_
  refine hK11 _ _ ?_; clear hK11
  refine W.seq_k fun K21 hK21 => ?_
  refine W.regionT [(0, true), (1, true), (2, true), (3, true), (4, false), (5, true), (6, true), (7, true), (8, true), (9, true)] (by kernel_rfl) ?_
  refine Plan.move_slice rfl rfl ?_
  refine Plan.move_slice rfl rfl ?_
  refine Plan.move_slice rfl rfl ?_
  refine Plan.move_int rfl rfl ?_
  obtain ⟨x_23, x_24, hr22, hR⟩ := hR
  refine Plan.call (vs := [.slice akey6 key6.length ckey6, .slice ax_7 x_7.length cx_7, .slice ay8 y8.length cy8, .int .i64 n_9]) rfl FLaw03.call77 rfl (letheref03_Keys_ok (iG2 := iG2 + 9) hG2 (iG3 := iG3 + 9) hG3 (hkey6.app [_, _, _, _, _, _, _, _, _]) (hx_7.app [_, _, _, _, _, _, _, _, _]) (hy8.app [_, _, _, _, _, _, _, _, _]) hr22 h20) ?_
  rintro _ w30 ⟨ay0_25, py0_26, ny0_27, cy0_28, Fy0_29, rfl, h30, hf30_0⟩
  try dsimp only at hf30_0
  obtain rfl := hf30_0.hl
  refine ⟨_, rfl, .inl ⟨PIn.keep PIn.nil h30, ?_⟩⟩
  refine Plan.move_tuple rfl rfl ?_
  refine Plan.extract_slice rfl rfl rfl ?_
  refine Plan.extract_int rfl rfl rfl ?_
  refine Plan.assign_slice rfl rfl ?_
  refine Plan.assign_int rfl rfl ?_
  refine Plan.nil ?_
  refine hK21 _ _ ?_; clear hK21
  refine W.seq_k fun K31 hK31 => ?_
  refine W.seq_k fun K37 hK37 => ?_
  refine W.regionT [(0, true), (1, true), (2, true), (3, true), (4, true), (5, true), (6, true), (7, true), (8, true), (9, true)] (by kernel_rfl) ?_
  refine Plan.move_int rfl rfl ?_
  refine Plan.move_int rfl rfl ?_
  by_cases hc38 : x_14 ≠ x_24
  ·
    replace hR := ifT hR hc38
    refine Plan.cmpV (a := (((x_14 : Nat) : Int) : Int)) (b := (((x_24 : Nat) : Int) : Int)) (p := x_14 ≠ x_24) (v := true) rfl rfl rfl rfl icmp_neN (decide_eq_true hc38) ?_
    refine Plan.move_bool rfl rfl ?_
    refine Plan.passed rfl ?_
    refine Plan.passed rfl ?_
    refine Plan.passed rfl ?_
    refine Plan.passed rfl ?_
    refine Plan.passed rfl ?_
    refine Plan.pickTb rfl rfl rfl ?_
    refine Plan.nil ?_
    refine hK37 _ _ ?_; clear hK37
    refine W.condT rfl ?_
    refine W.seq_k fun K39 hK39 => ?_
    refine W.regionT [(0, true)] (by kernel_rfl) ?_
    refine Plan.assign_bool rfl rfl ?_
    refine Plan.nil ?_
    refine hK39 _ _ ?_; clear hK39
    refine W.ret (thenR_ret (finR_ret ?_))
    have h40 := St.pickT (C := [_, _, _, _, _, _, _, _, _, _]) h30 [2, 3, 4, 5, 6, 7, 8, 9] (by decide)
    simp only [pick, List.filterMap_cons, List.filterMap_nil, List.getElem?_cons_zero, List.getElem?_cons_succ, List.cons_append, List.nil_append] at h40
    subst r
    refine RetOk.mk (.tmp_bool rfl .nil) ?_
    exact ⟨[], abLists2, pbLists2, bLists2.length, cbLists2, FbLists2, abWant3, pbWant3, bWant3.length, cbWant3, FbWant3, abKeys4, pbKeys4, bKeys4.length, cbKeys4, FbKeys4, abWantK5, pbWantK5, bWantK5.length, cbWantK5, FbWantK5, rfl, h40, hbLists2, hbWant3, hbKeys4, hbWantK5⟩
  ·
    replace hR := ifF hR hc38
    refine Plan.cmpV (a := (((x_14 : Nat) : Int) : Int)) (b := (((x_24 : Nat) : Int) : Int)) (p := x_14 ≠ x_24) (v := false) rfl rfl rfl rfl icmp_neN (decide_eq_false hc38) ?_
    refine Plan.move_bool rfl rfl ?_
    refine Plan.move_slice rfl rfl ?_
    refine Plan.len FLaw03.isl62 rfl rfl ?_
    refine Plan.move_slice rfl rfl ?_
    refine Plan.len FLaw03.isl113 rfl rfl ?_
    refine Plan.cmpP (a := (((x_13.length : Nat) : Int) : Int)) (b := (((x_23.length : Nat) : Int) : Int)) (p := x_13.length ≠ x_23.length) rfl rfl rfl rfl icmp_neN ?_
    refine Plan.pickFb rfl rfl rfl ?_
    refine Plan.nil ?_
    refine hK37 _ _ ?_; clear hK37
    by_cases hc41 : x_13.length ≠ x_23.length
    ·
      replace hR := ifT hR hc41
      refine W.condT (congrArg Value.bool (decide_eq_true hc41)) ?_
      refine W.seq_k fun K42 hK42 => ?_
      refine W.regionT [(0, true)] (by kernel_rfl) ?_
      refine Plan.assign_bool rfl rfl ?_
      refine Plan.nil ?_
      refine hK42 _ _ ?_; clear hK42
      refine W.ret (thenR_ret (finR_ret ?_))
      have h43 := St.pickT (C := [_, _, _, _, _, _, _, _, _, _]) h30 [2, 3, 4, 5, 6, 7, 8, 9] (by decide)
      simp only [pick, List.filterMap_cons, List.filterMap_nil, List.getElem?_cons_zero, List.getElem?_cons_succ, List.cons_append, List.nil_append] at h43
      subst r
      refine RetOk.mk (.tmp_bool rfl .nil) ?_
      exact ⟨[], abLists2, pbLists2, bLists2.length, cbLists2, FbLists2, abWant3, pbWant3, bWant3.length, cbWant3, FbWant3, abKeys4, pbKeys4, bKeys4.length, cbKeys4, FbKeys4, abWantK5, pbWantK5, bWantK5.length, cbWantK5, FbWantK5, rfl, h43, hbLists2, hbWant3, hbKeys4, hbWantK5⟩
    ·
      replace hR := ifF hR hc41
      refine W.condF (congrArg Value.bool (decide_eq_false hc41)) ?_
      refine W.skip ?_
      refine hK31 _ _ ?_; clear hK31
      refine W.seq_k fun K44 hK44 => ?_
      refine W.seq_k fun K45 hK45 => ?_
      refine W.regionT [(0, true)] (by kernel_rfl) ?_
      refine Plan.assign_int rfl rfl ?_
      refine Plan.nil ?_
      refine hK45 _ _ ?_; clear hK45
      obtain ⟨x73, hI73, hR073⟩ := hR
      refine W.cutN (fun e w => x73 = some () ∧ EnvHas e [(0, .pointer (some ⟨bb1, 0, none⟩)), (11, .slice ay0_15 x_13.length cy0_18)] ∧ St B w0 (⟨py0_16, 0, cy0_18 * 32, Fy0_19, true⟩ :: ⟨some bb1, 0, 1, fun _ => .slice abLists2 bLists2.length cbLists2, true⟩ :: ⟨pbLists2, 0, cbLists2 * 1, FbLists2, true⟩ :: ⟨some bb1, 1, 1, fun _ => .slice abWant3 bWant3.length cbWant3, true⟩ :: ⟨pbWant3, 0, cbWant3 * 1, FbWant3, true⟩ :: ⟨some bb1, 2, 1, fun _ => .slice abKeys4 bKeys4.length cbKeys4, true⟩ :: ⟨pbKeys4, 0, cbKeys4 * 1, FbKeys4, true⟩ :: ⟨some bb1, 3, 1, fun _ => .slice abWantK5 bWantK5.length cbWantK5, true⟩ :: ⟨pbWantK5, 0, cbWantK5 * 1, FbWantK5, true⟩ :: L) w) ?_ ?_
      ·
        refine W.block ?_
        refine W.iter hI73 (fun (s73 : Nat) e w => EnvHas e [(0, .pointer (some ⟨bb1, 0, none⟩)), (11, .slice ay0_15 x_13.length cy0_18), (13, .slice ay0_25 x_23.length cy0_28), (15, VN s73)] ∧ St B w0 (⟨py0_26, 0, cy0_28 * 32, Fy0_29, true⟩ :: ⟨py0_16, 0, cy0_18 * 32, Fy0_19, true⟩ :: ⟨some bb1, 0, 1, fun _ => .slice abLists2 bLists2.length cbLists2, true⟩ :: ⟨pbLists2, 0, cbLists2 * 1, FbLists2, true⟩ :: ⟨some bb1, 1, 1, fun _ => .slice abWant3 bWant3.length cbWant3, true⟩ :: ⟨pbWant3, 0, cbWant3 * 1, FbWant3, true⟩ :: ⟨some bb1, 2, 1, fun _ => .slice abKeys4 bKeys4.length cbKeys4, true⟩ :: ⟨pbKeys4, 0, cbKeys4 * 1, FbKeys4, true⟩ :: ⟨some bb1, 3, 1, fun _ => .slice abWantK5 bWantK5.length cbWantK5, true⟩ :: ⟨pbWantK5, 0, cbWantK5 * 1, FbWantK5, true⟩ :: L) w) ⟨(EnvHas.cons rfl (EnvHas.cons rfl (EnvHas.cons rfl (EnvHas.cons rfl EnvHas.nil)))), h30⟩ ?_
        rintro i_72 o73 hR hx73 ev74 wl74 ⟨he74, h74⟩
        obtain ⟨ev74, rfl⟩ := he74.open
        unfold lethelaw03_Book_keys_l0 at hR
        refine W.seq_k fun K75 hK75 => ?_
        refine W.seq_k fun K76 hK76 => ?_
        refine W.regionT [(0, true), (1, true), (2, true), (3, true)] (by kernel_rfl) ?_
        refine Plan.move_int rfl rfl ?_
        refine Plan.move_slice rfl rfl ?_
        refine Plan.len FLaw03.isl113 rfl rfl ?_
        refine Plan.cmpP (a := (((i_72 : Nat) : Int) : Int)) (b := (((x_23.length : Nat) : Int) : Int)) (p := i_72 < x_23.length) rfl rfl rfl rfl icmp_ltN ?_
        refine Plan.nil ?_
        refine hK76 _ _ ?_; clear hK76
        by_cases hc77 : i_72 < x_23.length
        ·
          replace hR := ifT hR hc77
          refine W.condT (congrArg Value.bool (decide_eq_true hc77)) ?_
          refine W.skip ?_
          refine hK75 _ _ ?_; clear hK75
          refine W.seq_k fun K78 hK78 => ?_
          refine W.block ?_
          refine W.seq_k fun K79 hK79 => ?_
          refine W.regionD FLaw03.mixed [(0, true), (1, true), (2, true), (3, true), (4, true), (5, true), (6, true), (7, true), (8, true)] (by kernel_rfl) ?_
          have h80 := h74.drew
          refine Plan.move_slice rfl rfl ?_
          refine Plan.move_int rfl rfl ?_
          obtain ⟨hc81, hR⟩ := hR
          refine Plan.idxLVS (D := D61) (j := i_72) h80 (LO.lvf D61_flat hf20_0 1 rfl) FLaw03.sl62 rfl rfl rfl hc81 ?_
          refine Plan.loadLV (D := D61) (X := x_13) (j := i_72) (sz := 32) h80 (fun _ => 0#8) (LO.lvf D61_flat hf20_0 1 rfl) rfl rfl hc81 rfl FLaw03.agg61 fun b82 r82 hs82 hr82 => ?_
          refine Plan.move_slice rfl rfl ?_
          refine Plan.move_int rfl rfl ?_
          obtain ⟨hc83, hR⟩ := hR
          refine Plan.idxLVS (D := D31) (j := i_72) h80 (LO.lvf D31_flat hf30_0 0 rfl) FLaw03.sl113 rfl rfl rfl hc83 ?_
          refine Plan.loadLV (D := D31) (X := x_23) (j := i_72) (sz := 32) h80 (fun _ => 0#8) (LO.lvf D31_flat hf30_0 0 rfl) rfl rfl hc83 rfl FLaw03.agg31 fun b84 r84 hs84 hr84 => ?_
          refine Plan.neArrV (b := (eqB 32 (x_13.getD i_72 (fun _ => 0#8)) (x_23.getD i_72 (fun _ => 0#8)))) FLaw03.arrI61 rfl rfl rfl rfl ?_
          refine Plan.nil ?_
          refine hK79 _ _ ?_; clear hK79
          by_cases hc85 : (eqB 32 (x_13.getD i_72 (fun _ => 0#8)) (x_23.getD i_72 (fun _ => 0#8))) = true
          ·
            replace hR := ifT hR hc85
            refine W.condF (congrArg Value.bool (congrArg Bool.not hc85)) ?_
            refine W.skip ?_
            refine blockR_norm ?_
            refine hK78 _ _ ?_; clear hK78
            refine W.regionT [(0, true), (1, true), (2, true)] (by kernel_rfl) ?_
            refine Plan.move_int rfl rfl ?_
            obtain ⟨hc86, hR⟩ := hR
            refine Plan.addN (a := i_72) (b := 1) rfl rfl rfl (by omega) ?_
            refine Plan.assign_int rfl rfl ?_
            refine Plan.nil ?_
            exact iterR_norm ⟨_, hR, (EnvHas.cons rfl (EnvHas.cons rfl (EnvHas.cons rfl (EnvHas.cons rfl EnvHas.nil)))), h80⟩
          ·
            replace hR := ifF hR hc85
            refine W.condT (congrArg Value.bool (congrArg Bool.not (Bool.eq_false_iff.2 hc85))) ?_
            refine W.seq_k fun K87 hK87 => ?_
            refine W.regionT [(0, true)] (by kernel_rfl) ?_
            refine Plan.assign_bool rfl rfl ?_
            refine Plan.nil ?_
            refine hK87 _ _ ?_; clear hK87
            refine W.ret (blockR_ret (thenR_ret (iterR_ret (blockR_ret (thenR_ret (thenR_ret (finR_ret ?_)))))))
            have h88 := St.pickT (C := [_, _, _, _, _, _, _, _, _, _]) h80 [2, 3, 4, 5, 6, 7, 8, 9] (by decide)
            simp only [pick, List.filterMap_cons, List.filterMap_nil, List.getElem?_cons_zero, List.getElem?_cons_succ, List.cons_append, List.nil_append] at h88
            replace hR := hR.2
            subst r
            refine RetOk.mk (.tmp_bool rfl .nil) ?_
            exact ⟨[], abLists2, pbLists2, bLists2.length, cbLists2, FbLists2, abWant3, pbWant3, bWant3.length, cbWant3, FbWant3, abKeys4, pbKeys4, bKeys4.length, cbKeys4, FbKeys4, abWantK5, pbWantK5, bWantK5.length, cbWantK5, FbWantK5, rfl, h88, hbLists2, hbWant3, hbKeys4, hbWantK5⟩
        ·
          replace hR := ifF hR hc77
          refine W.condF (congrArg Value.bool (decide_eq_false hc77)) ?_
          refine W.exit (thenR_exit (iterR_exit (blockR_here ?_)))
          have h89 := St.pickT (C := [_, _, _, _, _, _, _, _, _, _]) h74 [1, 2, 3, 4, 5, 6, 7, 8, 9] (by decide)
          simp only [pick, List.filterMap_cons, List.filterMap_nil, List.getElem?_cons_zero, List.getElem?_cons_succ, List.cons_append, List.nil_append] at h89
          exact ⟨(hx73 _ hR).symm, (EnvHas.cons rfl (EnvHas.cons rfl EnvHas.nil)), h89⟩
      ·
        rintro ev90 wl90 ⟨hy90, he90, h90⟩
        obtain ⟨ev90, rfl⟩ := he90.open
        replace hR := hR073  hy90
        refine hK44 _ _ ?_; clear hK44
        refine W.seq_k fun K91 hK91 => ?_
        refine W.regionT [(0, true), (1, true), (2, false)] (by kernel_rfl) ?_
        refine Plan.move_ptr rfl rfl ?_
        refine Plan.move_slice rfl rfl ?_
        have h92 := St.pickT (C := [_, _, _, _, _, _, _, _, _]) h90 [1, 2, 3, 4, 5, 6, 7, 8, 0] (by decide)
        simp only [pick, List.filterMap_cons, List.filterMap_nil, List.getElem?_cons_zero, List.getElem?_cons_succ, List.cons_append, List.nil_append] at h92
        obtain ⟨x_94, x_95, x_96, x_97, hr93, hR⟩ := hR
        refine Plan.call (vs := [.pointer (some ⟨bb1, 0, none⟩), .slice ay0_15 x_13.length cy0_18]) rfl FLaw03.call78 rfl (lethelaw03_Book_Note32_ok (LP := LP) (by exact fun r hr => List.mem_append_right [] (hLP r hr)) (by exact LO.grow D22_lifts (fun r hr => hr) hbLists2) (by exact LO.grow D22_lifts (fun r hr => hr) hbWant3) (by exact LO.grow D62_lifts (fun r hr => hr) hbKeys4) (by exact LO.grow D62_lifts (fun r hr => hr) hbWantK5) (by exact hf20_0) hr93 h92) ?_
        rintro _ w118 ⟨C118, aqbLists2_98, pqbLists2_99, nqbLists2_100, cqbLists2_101, FqbLists2_102, aqbWant3_103, pqbWant3_104, nqbWant3_105, cqbWant3_106, FqbWant3_107, aqbKeys4_108, pqbKeys4_109, nqbKeys4_110, cqbKeys4_111, FqbKeys4_112, aqbWantK5_113, pqbWantK5_114, nqbWantK5_115, cqbWantK5_116, FqbWantK5_117, rfl, h118, hf118_0, hf118_1, hf118_2, hf118_3⟩
        try dsimp only at hf118_0 hf118_1 hf118_2 hf118_3
        obtain rfl := hf118_0.hl
        obtain rfl := hf118_1.hl
        obtain rfl := hf118_2.hl
        obtain rfl := hf118_3.hl
        replace h118 := St.pool (N := [_, _, _, _, _, _, _, _]) (R := []) h118
        obtain ⟨L, hL119⟩ : ∃ X, X = C118 ++ L := ⟨_, rfl⟩
        obtain ⟨LP, hQ119⟩ : ∃ X, X = C118 ++ LP := ⟨_, rfl⟩
        replace hLP : ∀ r ∈ LP, r ∈ L := by rw [hQ119, hL119]; exact frMemGrow hLP
        have h119 := St.re (N := [_, _, _, _, _, _, _, _]) hL119 h118
        simp only [List.cons_append, List.nil_append] at h119
        replace hFr : Fr2 _ _ L LP := hFr.step hL119 hQ119
        have ho120 : LO (D22.at LP) [] aqbLists2_98 pqbLists2_99 (x_94).length cqbLists2_101 FqbLists2_102 x_94 := LO.grow D22_lifts (fun r hr => (by rw [hQ119]; exact hr)) hf118_0
        have ho121 : LO (D22.at LP) [] aqbWant3_103 pqbWant3_104 (x_95).length cqbWant3_106 FqbWant3_107 x_95 := LO.grow D22_lifts (fun r hr => (by rw [hQ119]; exact hr)) hf118_1
        have ho122 : LO (D62.at LP) [] aqbKeys4_108 pqbKeys4_109 (x_96).length cqbKeys4_111 FqbKeys4_112 x_96 := LO.grow D62_lifts (fun r hr => (by rw [hQ119]; exact hr)) hf118_2
        have ho123 : LO (D62.at LP) [] aqbWantK5_113 pqbWantK5_114 (x_97).length cqbWantK5_116 FqbWantK5_117 x_97 := LO.grow D62_lifts (fun r hr => (by rw [hQ119]; exact hr)) hf118_3
        refine ⟨_, rfl, .inl ⟨PIn.keep PIn.nil h119, ?_⟩⟩
        refine Plan.nil ?_
        refine hK91 _ _ ?_; clear hK91
        refine W.seq_k fun K124 hK124 => ?_
        refine W.regionT [(0, true)] (by kernel_rfl) ?_
        refine Plan.assign_bool rfl rfl ?_
        refine Plan.nil ?_
        refine hK124 _ _ ?_; clear hK124
        refine W.ret (finR_ret ?_)
        subst r
        refine RetOk.mk (.tmp_bool rfl .nil) ?_
        obtain ⟨CF, hx1, hx2⟩ := hFr
        subst hx1
        subst hx2
        exact ⟨_, aqbLists2_98, pqbLists2_99, x_94.length, cqbLists2_101, FqbLists2_102, aqbWant3_103, pqbWant3_104, x_95.length, cqbWant3_106, FqbWant3_107, aqbKeys4_108, pqbKeys4_109, x_96.length, cqbKeys4_111, FqbKeys4_112, aqbWantK5_113, pqbWantK5_114, x_97.length, cqbWantK5_116, FqbWantK5_117, rfl, h119, ho120, ho121, ho122, ho123⟩


set_option maxRecDepth 8000 in
set_option maxHeartbeats 1000000 in
theorem lethelaw03_Kept_ok {B : Nat} {w0 w : World} {L : List Rg} {room1 : List Byte} {aroom1 : Option Addr} {nroom1 croom1 iroom1 : Nat} (hroom1 : Bx L iroom1 aroom1 nroom1 croom1 room1) {b2 : List Byte} {ab2 : Option Addr} {nb2 cb2 ib2 : Nat} (hb2 : Bx L ib2 ab2 nb2 cb2 b2) {r : Bool} (hR : lethelaw03_Kept room1 b2 r) (HST : St B w0 (L) w) :
    Calls Tryd.prog 63 #[.slice aroom1 nroom1 croom1, .slice ab2 nb2 cb2] w fun e w' => e = .returned (.bool r) ∧ St B w0 (L) w' := by
  refine W.enter 9 Tryd.func63 rfl rfl rfl ?_
  unfold lethelaw03_Kept at hR
  have eroom1 := hroom1.hl; subst eroom1
  have eb2 := hb2.hl; subst eb2
  refine W.seq_k fun K3 hK3 => ?_
  refine W.regionT [(0, true)] (by kernel_rfl) ?_
  refine Plan.assign_bool rfl rfl ?_
  refine Plan.nil ?_
  refine hK3 _ _ ?_; clear hK3
  refine W.seq_k fun K4 hK4 => ?_
  refine W.regionT [(0, true), (1, true), (2, false), (3, false), (4, true)] (by kernel_rfl) ?_
  refine Plan.move_slice rfl rfl ?_
  refine Plan.move_slice rfl rfl ?_
  obtain ⟨x_6, hr5, hR⟩ := hR
  refine Plan.call (vs := [.slice ab2 b2.length cb2]) rfl FLaw03.call57 rfl (lethelaw03_Room_ok hb2 hr5 HST) ?_
  rintro _ w12 ⟨ay0_7, py0_8, ny0_9, cy0_10, Fy0_11, rfl, h12, hf12_0⟩
  obtain rfl := hf12_0.hl
  refine ⟨_, rfl, .inl ⟨PIn.keep PIn.nil h12, ?_⟩⟩
  obtain ⟨x_14, hr13, hR⟩ := hR
  refine Plan.call (vs := [.slice aroom1 room1.length croom1, .slice ay0_7 x_6.length cy0_10]) rfl FLaw03.call41 rfl (lethelaw03_Eq_ok (hroom1.app [_]) (by exact (hf12_0.bx 0 rfl)) hr13 h12) ?_
  rintro _ w15 ⟨rfl, h15⟩
  refine ⟨_, rfl, .inl ⟨PIn.keep PIn.nil h15, ?_⟩⟩
  refine Plan.assign_bool rfl rfl ?_
  refine Plan.nil ?_
  refine hK4 _ _ ?_; clear hK4
  refine W.ret (finR_ret ?_)
  have h16 := St.pickT (C := [_]) h15 [] (by decide)
  simp only [pick, List.filterMap_cons, List.filterMap_nil, List.getElem?_cons_zero, List.getElem?_cons_succ, List.cons_append, List.nil_append] at h16
  subst r
  refine RetOk.mk (.tmp_bool rfl .nil) ?_
  exact ⟨rfl, h16⟩


set_option maxRecDepth 8000 in
set_option maxHeartbeats 1000000 in
theorem lethelaw03_Book_plays_ok {B : Nat} {w0 w : World} {L : List Rg} {iG0 : Nat} (hG0 : L[iG0]? = some ⟨some 0, 0, 64, fun q => VU .u32 (K256 q), false⟩) {iG1 : Nat} (hG1 : L[iG1]? = some ⟨some 1, 0, 8, fun q => VU .u32 (H256 q), false⟩) {iG2 : Nat} (hG2 : L[iG2]? = some ⟨some 2, 0, 64, fun q => VU .u64 (K64 q), false⟩) {iG3 : Nat} (hG3 : L[iG3]? = some ⟨some 3, 0, 8, fun q => VU .u64 (H64 q), false⟩) {LP : List Rg} (hLP : ∀ r ∈ LP, r ∈ L) {bb1 : Nat} {bLists2 : List (List Byte)} {abLists2 : Option Addr} {pbLists2 : Option Nat} {nbLists2 cbLists2 : Nat} {FbLists2 : Nat → Value} (hbLists2 : LO (D22.at LP) [] abLists2 pbLists2 nbLists2 cbLists2 FbLists2 bLists2) {bWant3 : List (List Byte)} {abWant3 : Option Addr} {pbWant3 : Option Nat} {nbWant3 cbWant3 : Nat} {FbWant3 : Nat → Value} (hbWant3 : LO (D22.at LP) [] abWant3 pbWant3 nbWant3 cbWant3 FbWant3 bWant3) {bKeys4 : List (List (Nat → BitVec 8))} {abKeys4 : Option Addr} {pbKeys4 : Option Nat} {nbKeys4 cbKeys4 : Nat} {FbKeys4 : Nat → Value} (hbKeys4 : LO (D62.at LP) [] abKeys4 pbKeys4 nbKeys4 cbKeys4 FbKeys4 bKeys4) {bWantK5 : List (List (Nat → BitVec 8))} {abWantK5 : Option Addr} {pbWantK5 : Option Nat} {nbWantK5 cbWantK5 : Nat} {FbWantK5 : Nat → Value} (hbWantK5 : LO (D62.at LP) [] abWantK5 pbWantK5 nbWantK5 cbWantK5 FbWantK5 bWantK5) {oKind6 : Int} {oKey7 : List Byte} {aoKey7 : Option Addr} {noKey7 coKey7 : Nat} (qoKey7 : ∃ i, Bx LP i aoKey7 noKey7 coKey7 oKey7) {oA8 : List Byte} {aoA8 : Option Addr} {noA8 coA8 : Nat} (qoA8 : ∃ i, Bx LP i aoA8 noA8 coA8 oA8) {oB9 : List Byte} {aoB9 : Option Addr} {noB9 coB9 : Nat} (qoB9 : ∃ i, Bx LP i aoB9 noB9 coB9 oB9) {oN10 : Int} {r : (Bool × (List (List Byte)) × (List (List Byte)) × (List (List (Nat → BitVec 8))) × (List (List (Nat → BitVec 8))))} (hR : lethelaw03_Book_plays bLists2 bWant3 bKeys4 bWantK5 oKind6 oKey7 oA8 oB9 oN10 r) (HST : St B w0 (⟨some bb1, 0, 1, fun _ => .slice abLists2 nbLists2 cbLists2, true⟩ :: ⟨pbLists2, 0, cbLists2 * 1, FbLists2, true⟩ :: ⟨some bb1, 1, 1, fun _ => .slice abWant3 nbWant3 cbWant3, true⟩ :: ⟨pbWant3, 0, cbWant3 * 1, FbWant3, true⟩ :: ⟨some bb1, 2, 1, fun _ => .slice abKeys4 nbKeys4 cbKeys4, true⟩ :: ⟨pbKeys4, 0, cbKeys4 * 1, FbKeys4, true⟩ :: ⟨some bb1, 3, 1, fun _ => .slice abWantK5 nbWantK5 cbWantK5, true⟩ :: ⟨pbWantK5, 0, cbWantK5 * 1, FbWantK5, true⟩ :: L) w) :
    Calls Tryd.prog 43 #[.pointer (some ⟨bb1, 0, none⟩), AG [(1, fun _ => .int .i64 oKind6), (1, fun _ => .slice aoKey7 noKey7 coKey7), (1, fun _ => .slice aoA8 noA8 coA8), (1, fun _ => .slice aoB9 noB9 coB9), (1, fun _ => .int .i64 oN10)]] w fun e w' => ∃ C : List Rg, ∃ aqbLists2 : Option Addr, ∃ pqbLists2 : Option Nat, ∃ nqbLists2 : Nat, ∃ cqbLists2 : Nat, ∃ FqbLists2 : Nat → Value, ∃ aqbWant3 : Option Addr, ∃ pqbWant3 : Option Nat, ∃ nqbWant3 : Nat, ∃ cqbWant3 : Nat, ∃ FqbWant3 : Nat → Value, ∃ aqbKeys4 : Option Addr, ∃ pqbKeys4 : Option Nat, ∃ nqbKeys4 : Nat, ∃ cqbKeys4 : Nat, ∃ FqbKeys4 : Nat → Value, ∃ aqbWantK5 : Option Addr, ∃ pqbWantK5 : Option Nat, ∃ nqbWantK5 : Nat, ∃ cqbWantK5 : Nat, ∃ FqbWantK5 : Nat → Value, e = .returned (.bool r.1) ∧ St B w0 (⟨some bb1, 0, 1, fun _ => .slice aqbLists2 nqbLists2 cqbLists2, true⟩ :: ⟨pqbLists2, 0, cqbLists2 * 1, FqbLists2, true⟩ :: ⟨some bb1, 1, 1, fun _ => .slice aqbWant3 nqbWant3 cqbWant3, true⟩ :: ⟨pqbWant3, 0, cqbWant3 * 1, FqbWant3, true⟩ :: ⟨some bb1, 2, 1, fun _ => .slice aqbKeys4 nqbKeys4 cqbKeys4, true⟩ :: ⟨pqbKeys4, 0, cqbKeys4 * 1, FqbKeys4, true⟩ :: ⟨some bb1, 3, 1, fun _ => .slice aqbWantK5 nqbWantK5 cqbWantK5, true⟩ :: ⟨pqbWantK5, 0, cqbWantK5 * 1, FqbWantK5, true⟩ :: (C ++ L)) w' ∧ LO (D22.at (C ++ LP)) [] aqbLists2 pqbLists2 nqbLists2 cqbLists2 FqbLists2 r.2.1 ∧ LO (D22.at (C ++ LP)) [] aqbWant3 pqbWant3 nqbWant3 cqbWant3 FqbWant3 r.2.2.1 ∧ LO (D62.at (C ++ LP)) [] aqbKeys4 pqbKeys4 nqbKeys4 cqbKeys4 FqbKeys4 r.2.2.2.1 ∧ LO (D62.at (C ++ LP)) [] aqbWantK5 pqbWantK5 nqbWantK5 cqbWantK5 FqbWantK5 r.2.2.2.2 := by
  refine W.enter 118 Tryd.func43 rfl rfl rfl ?_
  unfold lethelaw03_Book_plays at hR
  have hFr : Fr2 L LP L LP := Fr2.refl _ _
  have ebLists2 := hbLists2.hl; subst ebLists2
  have ebWant3 := hbWant3.hl; subst ebWant3
  have ebKeys4 := hbKeys4.hl; subst ebKeys4
  have ebWantK5 := hbWantK5.hl; subst ebWantK5
  have eoKey7 := qoKey7.choose_spec.hl; subst eoKey7
  obtain ⟨ioKey7, hoKey7⟩ := Bx.lift qoKey7.choose_spec hLP
  have eoA8 := qoA8.choose_spec.hl; subst eoA8
  obtain ⟨ioA8, hoA8⟩ := Bx.lift qoA8.choose_spec hLP
  have eoB9 := qoB9.choose_spec.hl; subst eoB9
  obtain ⟨ioB9, hoB9⟩ := Bx.lift qoB9.choose_spec hLP
  refine W.seq_k fun K11 hK11 => ?_
  refine W.regionT [(0, false), (1, true)] (by kernel_rfl) ?_
  refine Plan.boxA HST rfl rfl PIn.nil fun b12 w12 hb12 h12 => ?_
  simp only [rngs, Nat.zero_add, Nat.reduceAdd, List.cons_append, List.nil_append] at h12
  refine Plan.assign_bool rfl rfl ?_
  refine Plan.nil ?_
  refine hK11 _ _ ?_; clear hK11
  refine W.seq_k fun K13 hK13 => ?_
  refine W.regionD FLaw03.mixed [(0, true), (1, true), (4, true), (5, true), (8, true), (9, true), (2, false), (3, false), (6, false), (7, false), (10, false), (11, false), (12, true), (13, true), (14, true)] (by kernel_rfl) ?_
  have h14 := h12.drew
  refine Plan.fieldAddr 1 FLaw03.fld81_1 rfl rfl ?_
  refine Plan.load0 h14 1 rfl rfl rfl (by omega) FLaw03.sc22 ?_
  refine Plan.fieldAddr 2 FLaw03.fld81_2 rfl rfl ?_
  refine Plan.load0 h14 2 rfl rfl rfl (by omega) FLaw03.sc22 ?_
  refine Plan.fieldAddr 3 FLaw03.fld81_3 rfl rfl ?_
  refine Plan.load0 h14 3 rfl rfl rfl (by omega) FLaw03.sc22 ?_
  obtain ⟨x_16, hr15, hR⟩ := hR
  refine Plan.call (vs := [.slice aoKey7 oKey7.length coKey7]) rfl FLaw03.call33 rfl (lethelaw03_short_ok (hoKey7.app [_, _, _, _, _, _, _, _, _, _, _, _, _]) hr15 h14) ?_
  rintro _ w20 ⟨ay0_17, ny0_18, cy0_19, rfl, h20, hf20_0⟩
  obtain rfl := hf20_0.hl
  refine ⟨_, rfl, .inl ⟨PIn.keep (PIn.cons 3 rfl (PIn.cons 2 rfl (PIn.cons 1 rfl PIn.nil))) h20, ?_⟩⟩
  obtain ⟨x_22, hr21, hR⟩ := hR
  refine Plan.call (vs := [.slice ay0_17 x_16.length cy0_19]) rfl FLaw03.call57 rfl (lethelaw03_Room_ok ((Bx.unapp (D := [_, _, _, _, _, _, _, _, _, _, _, _, _]) hf20_0).app [_, _, _, _, _, _, _, _, _, _, _, _, _]) hr21 h20) ?_
  rintro _ w28 ⟨ay0_23, py0_24, ny0_25, cy0_26, Fy0_27, rfl, h28, hf28_0⟩
  obtain rfl := hf28_0.hl
  refine ⟨_, rfl, .inl ⟨PIn.keep (PIn.cons 4 rfl (PIn.cons 3 rfl (PIn.cons 2 rfl PIn.nil))) h28, ?_⟩⟩
  obtain ⟨x_30, hr29, hR⟩ := hR
  refine Plan.call (vs := [.slice aoA8 oA8.length coA8]) rfl FLaw03.call33 rfl (lethelaw03_short_ok (hoA8.app [_, _, _, _, _, _, _, _, _, _, _, _, _, _]) hr29 h28) ?_
  rintro _ w34 ⟨ay0_31, ny0_32, cy0_33, rfl, h34, hf34_0⟩
  obtain rfl := hf34_0.hl
  refine ⟨_, rfl, .inl ⟨PIn.keep (PIn.cons 4 rfl (PIn.cons 3 rfl (PIn.cons 2 rfl PIn.nil))) h34, ?_⟩⟩
  obtain ⟨x_36, hr35, hR⟩ := hR
  refine Plan.call (vs := [.slice ay0_31 x_30.length cy0_33]) rfl FLaw03.call57 rfl (lethelaw03_Room_ok ((Bx.unapp (D := [_, _, _, _, _, _, _, _, _, _, _, _, _, _]) hf34_0).app [_, _, _, _, _, _, _, _, _, _, _, _, _, _]) hr35 h34) ?_
  rintro _ w42 ⟨ay0_37, py0_38, ny0_39, cy0_40, Fy0_41, rfl, h42, hf42_0⟩
  obtain rfl := hf42_0.hl
  refine ⟨_, rfl, .inl ⟨PIn.keep (PIn.cons 5 rfl (PIn.cons 4 rfl (PIn.cons 3 rfl PIn.nil))) h42, ?_⟩⟩
  obtain ⟨x_44, hr43, hR⟩ := hR
  refine Plan.call (vs := [.slice aoB9 oB9.length coB9]) rfl FLaw03.call33 rfl (lethelaw03_short_ok (hoB9.app [_, _, _, _, _, _, _, _, _, _, _, _, _, _, _]) hr43 h42) ?_
  rintro _ w48 ⟨ay0_45, ny0_46, cy0_47, rfl, h48, hf48_0⟩
  obtain rfl := hf48_0.hl
  refine ⟨_, rfl, .inl ⟨PIn.keep (PIn.cons 5 rfl (PIn.cons 4 rfl (PIn.cons 3 rfl PIn.nil))) h48, ?_⟩⟩
  obtain ⟨x_50, hr49, hR⟩ := hR
  refine Plan.call (vs := [.slice ay0_45 x_44.length cy0_47]) rfl FLaw03.call57 rfl (lethelaw03_Room_ok ((Bx.unapp (D := [_, _, _, _, _, _, _, _, _, _, _, _, _, _, _]) hf48_0).app [_, _, _, _, _, _, _, _, _, _, _, _, _, _, _]) hr49 h48) ?_
  rintro _ w56 ⟨ay0_51, py0_52, ny0_53, cy0_54, Fy0_55, rfl, h56, hf56_0⟩
  obtain rfl := hf56_0.hl
  refine ⟨_, rfl, .inl ⟨PIn.keep (PIn.cons 6 rfl (PIn.cons 5 rfl (PIn.cons 4 rfl PIn.nil))) h56, ?_⟩⟩
  refine Plan.assign_slice rfl rfl ?_
  refine Plan.assign_slice rfl rfl ?_
  refine Plan.assign_slice rfl rfl ?_
  refine Plan.nil ?_
  refine hK13 _ _ ?_; clear hK13
  refine W.seq_k fun K57 hK57 => ?_
  refine W.regionD FLaw03.mixed [(0, true), (1, true), (2, true), (3, true), (4, true), (5, true), (6, true), (7, true), (8, true), (9, true), (10, true), (11, true), (12, true), (13, true), (14, true), (15, true), (16, true), (17, true)] (by kernel_rfl) ?_
  have h58 := h56.drew
  refine Plan.move_slice rfl rfl ?_
  refine Plan.move_slice rfl rfl ?_
  refine Plan.len FLaw03.isl22 rfl rfl ?_
  obtain ⟨hc59, hR⟩ := hR
  refine Plan.subI (a := ((x_22.length : Nat) : Int)) (b := 3) rfl rfl rfl (by omega) ?_
  obtain ⟨hc60, hR⟩ := hR
  obtain ⟨hc61, hR⟩ := hR
  have hm62 := hf28_0.hc
  refine Plan.slSl (lo := 0) (hi := (((x_22.length : Nat) : Int) - 3).toNat) FLaw03.sl22 rfl rfl rfl ⟨_, congrArg (Value.int .i64) (Int.toNat_of_nonneg hc60).symm⟩ (by omega) ?_
  refine Plan.move_slice rfl rfl ?_
  refine Plan.move_slice rfl rfl ?_
  refine Plan.len FLaw03.isl22 rfl rfl ?_
  obtain ⟨hc63, hR⟩ := hR
  refine Plan.subI (a := ((x_36.length : Nat) : Int)) (b := 3) rfl rfl rfl (by omega) ?_
  obtain ⟨hc64, hR⟩ := hR
  obtain ⟨hc65, hR⟩ := hR
  have hm66 := hf42_0.hc
  refine Plan.slSl (lo := 0) (hi := (((x_36.length : Nat) : Int) - 3).toNat) FLaw03.sl22 rfl rfl rfl ⟨_, congrArg (Value.int .i64) (Int.toNat_of_nonneg hc64).symm⟩ (by omega) ?_
  refine Plan.move_slice rfl rfl ?_
  refine Plan.move_slice rfl rfl ?_
  refine Plan.len FLaw03.isl22 rfl rfl ?_
  obtain ⟨hc67, hR⟩ := hR
  refine Plan.subI (a := ((x_50.length : Nat) : Int)) (b := 3) rfl rfl rfl (by omega) ?_
  obtain ⟨hc68, hR⟩ := hR
  obtain ⟨hc69, hR⟩ := hR
  have hm70 := hf56_0.hc
  refine Plan.slSl (lo := 0) (hi := (((x_50.length : Nat) : Int) - 3).toNat) FLaw03.sl22 rfl rfl rfl ⟨_, congrArg (Value.int .i64) (Int.toNat_of_nonneg hc68).symm⟩ (by omega) ?_
  refine Plan.assign_slice rfl rfl ?_
  refine Plan.assign_slice rfl rfl ?_
  refine Plan.assign_slice rfl rfl ?_
  refine Plan.nil ?_
  refine hK57 _ _ ?_; clear hK57
  refine W.seq_k fun K71 hK71 => ?_
  refine W.regionT [(0, true)] (by kernel_rfl) ?_
  refine Plan.assign_bool rfl rfl ?_
  refine Plan.nil ?_
  refine hK71 _ _ ?_; clear hK71
  refine W.seq_k fun K72 hK72 => ?_
  have hFj231 : Fr2 L LP L LP := Fr2.refl _ _
  obtain ⟨k223, x_224, y225, ok226, m227, m228, m229, m230, hX231, hR0231⟩ := hR
  refine W.cutN (fun e w => ∃ y_k223 : List Byte, ∃ y_x_224 : List Byte, ∃ y_y225 : List Byte, ∃ y_ok226 : Bool, ∃ y_m227 : List (List Byte), ∃ y_m228 : List (List Byte), ∃ y_m229 : List (List (Nat → BitVec 8)), ∃ y_m230 : List (List (Nat → BitVec 8)), (k223 = y_k223 ∧ x_224 = y_x_224 ∧ y225 = y_y225 ∧ ok226 = y_ok226 ∧ m227 = y_m227 ∧ m228 = y_m228 ∧ m229 = y_m229 ∧ m230 = y_m230) ∧ ∃ CG LG : List Rg, LG = CG ++ L ∧ ∃ QG : List Rg, QG = CG ++ LP ∧ ∃ L : List Rg, L = LG ∧ ∃ LP : List Rg, LP = QG ∧ (∀ r ∈ LP, r ∈ L) ∧ ∃ ak223 : Option Addr, ∃ pk223 : Option Nat, ∃ ck223 : Nat, ∃ Fk223 : Nat → Byte, ∃ ax_224 : Option Addr, ∃ px_224 : Option Nat, ∃ cx_224 : Nat, ∃ Fx_224 : Nat → Byte, ∃ ay225 : Option Addr, ∃ py225 : Option Nat, ∃ cy225 : Nat, ∃ Fy225 : Nat → Byte, ∃ n_m227 : Nat, ∃ am227 : Option Addr, ∃ pm227 : Option Nat, ∃ cm227 : Nat, ∃ Fm227 : Nat → Value, ∃ n_m228 : Nat, ∃ am228 : Option Addr, ∃ pm228 : Option Nat, ∃ cm228 : Nat, ∃ Fm228 : Nat → Value, ∃ n_m229 : Nat, ∃ am229 : Option Addr, ∃ pm229 : Option Nat, ∃ cm229 : Nat, ∃ Fm229 : Nat → Value, ∃ n_m230 : Nat, ∃ am230 : Option Addr, ∃ pm230 : Option Nat, ∃ cm230 : Nat, ∃ Fm230 : Nat → Value, EnvHas e [(3, .pointer (some ⟨b12, 0, none⟩)), (5, .slice ak223 x_22.length ck223), (6, .slice ax_224 x_36.length cx_224), (7, .slice ay225 x_50.length cy225), (11, .bool y_ok226)] ∧ St B w0 (⟨pk223, 0, ck223, fun q => VU .u8 (Fk223 q), true⟩ :: ⟨px_224, 0, cx_224, fun q => VU .u8 (Fx_224 q), true⟩ :: ⟨py225, 0, cy225, fun q => VU .u8 (Fy225 q), true⟩ :: ⟨pm227, 0, cm227 * 1, Fm227, true⟩ :: ⟨pm228, 0, cm228 * 1, Fm228, true⟩ :: ⟨pm229, 0, cm229 * 1, Fm229, true⟩ :: ⟨pm230, 0, cm230 * 1, Fm230, true⟩ :: ⟨some b12, 0, 1, fun _ => .int .i64 oKind6, true⟩ :: ⟨some b12, 1, 1, fun _ => .slice aoKey7 oKey7.length coKey7, true⟩ :: ⟨some b12, 2, 1, fun _ => .slice aoA8 oA8.length coA8, true⟩ :: ⟨some b12, 3, 1, fun _ => .slice aoB9 oB9.length coB9, true⟩ :: ⟨some b12, 4, 1, fun _ => .int .i64 oN10, true⟩ :: ⟨some bb1, 0, 1, fun _ => .slice am227 n_m227 cm227, true⟩ :: ⟨some bb1, 1, 1, fun _ => .slice am228 n_m228 cm228, true⟩ :: ⟨some bb1, 2, 1, fun _ => .slice am229 n_m229 cm229, true⟩ :: ⟨some bb1, 3, 1, fun _ => .slice am230 n_m230 cm230, true⟩ :: L) w ∧ Ow ak223 pk223 x_22.length ck223 Fk223 y_k223 ∧ Ow ax_224 px_224 x_36.length cx_224 Fx_224 y_x_224 ∧ Ow ay225 py225 x_50.length cy225 Fy225 y_y225 ∧ LO (D22.at LP) [] am227 pm227 n_m227 cm227 Fm227 y_m227 ∧ LO (D22.at LP) [] am228 pm228 n_m228 cm228 Fm228 y_m228 ∧ LO (D62.at LP) [] am229 pm229 n_m229 cm229 Fm229 y_m229 ∧ LO (D62.at LP) [] am230 pm230 n_m230 cm230 Fm230 y_m230) ?_ ?_
  ·
    replace hR := hX231
    refine W.seq_k fun K232 hK232 => ?_
    refine W.regionT [(0, true), (1, true)] (by kernel_rfl) ?_
    refine Plan.fieldAddr0 FLaw03.fld81_0 rfl rfl ?_
    refine Plan.load0 h58 3 rfl rfl rfl (by omega) FLaw03.sc3 ?_
    refine Plan.nil ?_
    refine hK232 _ _ ?_; clear hK232
    refine W.block ?_
    refine W.seq_k fun K233 hK233 => ?_
    refine W.regionT [(0, true), (1, true)] (by kernel_rfl) ?_
    refine Plan.cmpP (a := (oKind6 : Int)) (b := (1 : Int)) (p := oKind6 = 1) rfl rfl rfl rfl icmp_eq ?_
    refine Plan.assign_bool rfl rfl ?_
    refine Plan.nil ?_
    refine hK233 _ _ ?_; clear hK233
    by_cases hc234 : oKind6 = 1
    ·
      replace hR := ifT hR hc234
      refine W.condT (congrArg Value.bool (decide_eq_true hc234)) ?_
      refine W.regionD FLaw03.mixed [(0, true), (1, true), (2, true), (3, true), (6, true), (7, true), (9, true), (10, true), (12, true), (13, true), (15, true), (16, true), (4, false), (5, false), (8, false), (11, false), (14, false), (17, false), (18, false), (19, false), (20, false), (21, true), (22, true)] (by kernel_rfl) ?_
      have h235 := h58.drew
      refine Plan.move_slice rfl rfl ?_
      refine Plan.move_slice rfl rfl ?_
      refine Plan.move_slice rfl rfl ?_
      refine Plan.move_slice rfl rfl ?_
      refine Plan.fieldAddr 1 FLaw03.fld81_1 rfl rfl ?_
      refine Plan.load0 h235 4 rfl rfl rfl (by omega) FLaw03.sc22 ?_
      refine Plan.fieldAddr 2 FLaw03.fld81_2 rfl rfl ?_
      refine Plan.load0 h235 5 rfl rfl rfl (by omega) FLaw03.sc22 ?_
      refine Plan.fieldAddr 3 FLaw03.fld81_3 rfl rfl ?_
      refine Plan.load0 h235 6 rfl rfl rfl (by omega) FLaw03.sc22 ?_
      refine Plan.fieldAddr 2 FLaw03.fld81_2 rfl rfl ?_
      refine Plan.load0 h235 5 rfl rfl rfl (by omega) FLaw03.sc22 ?_
      refine Plan.buildSlice h235 (ps := [(3, fun i => .slice ((fun i => ([(if cy0_40 = 0 then (ay0_37 : Option Addr) else (ay0_37 : Option Addr).map (·.add (0 * 1))), (if cy0_54 = 0 then (ay0_51 : Option Addr) else (ay0_51 : Option Addr).map (·.add (0 * 1))), (if cy0_40 = 0 then (ay0_37 : Option Addr) else (ay0_37 : Option Addr).map (·.add (0 * 1)))] : List (Option Addr)).getD i none) i) ((fun i => ([((((x_36.length : Nat) : Int) - 3).toNat - 0), ((((x_50.length : Nat) : Int) - 3).toNat - 0), ((((x_36.length : Nat) : Int) - 3).toNat - 0)] : List Nat).getD i 0) i) ((fun i => ([(cy0_40 - 0), (cy0_54 - 0), (cy0_40 - 0)] : List Nat).getD i 0) i))]) FLaw03.slu75 FLaw03.sz22 FLaw03.zv22 (by decide) (by decide) rfl rfl rfl (EffO.keep (PIn.cons 5 rfl (PIn.cons 6 rfl (PIn.cons 5 rfl (PIn.cons 4 rfl PIn.nil))))) fun b237 w237 hb237 h237 => ?_
      simp only [rngs, List.cons_append, List.nil_append] at h237
      obtain ⟨x_239, hr238, hR⟩ := hR
      refine Plan.call (vs := [.slice (if cy0_26 = 0 then (ay0_23 : Option Addr) else (ay0_23 : Option Addr).map (·.add (0 * 1))) ((((x_22.length : Nat) : Int) - 3).toNat - 0) (cy0_26 - 0), .slice (some ⟨b237, 0, none⟩) 3 3]) rfl FLaw03.call36 rfl (kdf_Mac_ok (iG0 := iG0 + 17) hG0 (iG1 := iG1 + 17) hG1 (by exact ((hf28_0.bx 3 rfl).seg (lo := 0) (hi := (((x_22.length : Nat) : Int) - 3).toNat) hc61)) (by exact (Bss.of 0 rfl rfl (fun i hi => match i, hi with | 0, _ => ⟨_, ((hf42_0.bx 2 rfl).seg (lo := 0) (hi := (((x_36.length : Nat) : Int) - 3).toNat) hc65)⟩ | 1, _ => ⟨_, ((hf56_0.bx 1 rfl).seg (lo := 0) (hi := (((x_50.length : Nat) : Int) - 3).toNat) hc69)⟩ | 2, _ => ⟨_, ((hf42_0.bx 2 rfl).seg (lo := 0) (hi := (((x_36.length : Nat) : Int) - 3).toNat) hc65)⟩ | k + 3, hk => absurd hk (by omega)))) hr238 h237) ?_
      rintro _ w240 ⟨rfl, h240⟩
      refine ⟨_, rfl, .inl ⟨PIn.keep (PIn.cons 6 rfl (PIn.cons 7 rfl (PIn.cons 6 rfl (PIn.cons 5 rfl PIn.nil)))) h240, ?_⟩⟩
      obtain ⟨x_242, hr241, hR⟩ := hR
      refine Plan.call (vs := [.slice aoKey7 oKey7.length coKey7]) rfl FLaw03.call33 rfl (lethelaw03_short_ok (hoKey7.app [_, _, _, _, _, _, _, _, _, _, _, _, _, _, _, _, _]) hr241 h240) ?_
      rintro _ w246 ⟨ay0_243, ny0_244, cy0_245, rfl, h246, hf246_0⟩
      obtain rfl := hf246_0.hl
      refine ⟨_, rfl, .inl ⟨PIn.keep (PIn.cons 6 rfl (PIn.cons 7 rfl (PIn.cons 6 rfl (PIn.cons 5 rfl PIn.nil)))) h246, ?_⟩⟩
      obtain ⟨x_248, hr247, hR⟩ := hR
      refine Plan.call (vs := [.slice aoA8 oA8.length coA8]) rfl FLaw03.call33 rfl (lethelaw03_short_ok (hoA8.app [_, _, _, _, _, _, _, _, _, _, _, _, _, _, _, _, _]) hr247 h246) ?_
      rintro _ w252 ⟨ay0_249, ny0_250, cy0_251, rfl, h252, hf252_0⟩
      obtain rfl := hf252_0.hl
      refine ⟨_, rfl, .inl ⟨PIn.keep (PIn.cons 6 rfl (PIn.cons 7 rfl (PIn.cons 6 rfl (PIn.cons 5 rfl PIn.nil)))) h252, ?_⟩⟩
      obtain ⟨x_254, hr253, hR⟩ := hR
      refine Plan.call (vs := [.slice aoB9 oB9.length coB9]) rfl FLaw03.call33 rfl (lethelaw03_short_ok (hoB9.app [_, _, _, _, _, _, _, _, _, _, _, _, _, _, _, _, _]) hr253 h252) ?_
      rintro _ w258 ⟨ay0_255, ny0_256, cy0_257, rfl, h258, hf258_0⟩
      obtain rfl := hf258_0.hl
      refine ⟨_, rfl, .inl ⟨PIn.keep (PIn.cons 6 rfl (PIn.cons 7 rfl (PIn.cons 6 rfl (PIn.cons 5 rfl PIn.nil)))) h258, ?_⟩⟩
      obtain ⟨x_260, hr259, hR⟩ := hR
      refine Plan.call (vs := [.slice aoA8 oA8.length coA8]) rfl FLaw03.call33 rfl (lethelaw03_short_ok (hoA8.app [_, _, _, _, _, _, _, _, _, _, _, _, _, _, _, _, _]) hr259 h258) ?_
      rintro _ w264 ⟨ay0_261, ny0_262, cy0_263, rfl, h264, hf264_0⟩
      obtain rfl := hf264_0.hl
      refine ⟨_, rfl, .inl ⟨PIn.keep (PIn.cons 6 rfl (PIn.cons 7 rfl (PIn.cons 6 rfl (PIn.cons 5 rfl PIn.nil)))) h264, ?_⟩⟩
      refine Plan.buildSlice h264 (ps := [(3, fun i => .slice ((fun i => ([ay0_249, ay0_255, ay0_261] : List (Option Addr)).getD i none) i) ((fun i => ([x_248.length, x_254.length, x_260.length] : List Nat).getD i 0) i) ((fun i => ([cy0_251, cy0_257, cy0_263] : List Nat).getD i 0) i))]) FLaw03.slu75 FLaw03.sz22 FLaw03.zv22 (by decide) (by decide) rfl rfl rfl (EffO.keep (PIn.cons 6 rfl (PIn.cons 7 rfl (PIn.cons 6 rfl (PIn.cons 5 rfl PIn.nil))))) fun b266 w266 hb266 h266 => ?_
      simp only [rngs, List.cons_append, List.nil_append] at h266
      obtain ⟨x_268, hr267, hR⟩ := hR
      refine Plan.call (vs := [.slice (some ⟨b266, 0, none⟩) 3 3]) rfl FLaw03.call59 rfl (letheref03_Joined_ok (by exact (Bss.of 0 rfl rfl (fun i hi => match i, hi with | 0, _ => ⟨_, ((Bx.unapp (D := [_, _, _, _, _, _, _, _, _, _, _, _, _, _, _, _, _]) hf252_0).app [_, _, _, _, _, _, _, _, _, _, _, _, _, _, _, _, _, _])⟩ | 1, _ => ⟨_, ((Bx.unapp (D := [_, _, _, _, _, _, _, _, _, _, _, _, _, _, _, _, _]) hf258_0).app [_, _, _, _, _, _, _, _, _, _, _, _, _, _, _, _, _, _])⟩ | 2, _ => ⟨_, ((Bx.unapp (D := [_, _, _, _, _, _, _, _, _, _, _, _, _, _, _, _, _]) hf264_0).app [_, _, _, _, _, _, _, _, _, _, _, _, _, _, _, _, _, _])⟩ | k + 3, hk => absurd hk (by omega)))) hr267 h266) ?_
      rintro _ w274 ⟨ay0_269, py0_270, ny0_271, cy0_272, Fy0_273, rfl, h274, hf274_0⟩
      obtain rfl := hf274_0.hl
      refine ⟨_, rfl, .inl ⟨PIn.keep (PIn.cons 8 rfl (PIn.cons 9 rfl (PIn.cons 8 rfl (PIn.cons 7 rfl PIn.nil)))) h274, ?_⟩⟩
      obtain ⟨x_276, hr275, hR⟩ := hR
      refine Plan.call (vs := [.slice ay0_243 x_242.length cy0_245, .slice ay0_269 x_268.length cy0_272]) rfl FLaw03.call58 rfl (letheref03_Mac_ok (iG2 := iG2 + 19) hG2 (iG3 := iG3 + 19) hG3 ((Bx.unapp (D := [_, _, _, _, _, _, _, _, _, _, _, _, _, _, _, _, _]) hf246_0).app [_, _, _, _, _, _, _, _, _, _, _, _, _, _, _, _, _, _, _]) (by exact (hf274_0.bx 0 rfl)) hr275 h274) ?_
      rintro _ w277 ⟨rfl, h277⟩
      refine ⟨_, rfl, .inl ⟨PIn.keep (PIn.cons 8 rfl (PIn.cons 9 rfl (PIn.cons 8 rfl (PIn.cons 7 rfl PIn.nil)))) h277, ?_⟩⟩
      refine Plan.eqArrV (b := (eqB 32 x_239 x_276)) FLaw03.arrI32 rfl rfl rfl rfl ?_
      refine Plan.assign_bool rfl rfl ?_
      refine Plan.nil ?_
      refine blockR_norm ?_
      have h278 := St.pickT (C := [_, _, _, _, _, _, _, _, _, _, _, _, _, _, _, _, _, _, _]) h277 [5, 4, 3, 12, 14, 16, 18, 6, 7, 8, 9, 10, 11, 13, 15, 17] (by decide)
      simp only [pick, List.filterMap_cons, List.filterMap_nil, List.getElem?_cons_zero, List.getElem?_cons_succ, List.cons_append, List.nil_append] at h278
      obtain ⟨CF279, hx279, hy279⟩ := hFj231
      exact ⟨x_22, x_36, x_50, (eqB 32 x_239 x_276), bLists2, bWant3, bKeys4, bWantK5, hR, CF279, L, hx279, LP, hy279, L, rfl, LP, rfl, hLP, ay0_23, py0_24, cy0_26, Fy0_27, ay0_37, py0_38, cy0_40, Fy0_41, ay0_51, py0_52, cy0_54, Fy0_55, bLists2.length, abLists2, pbLists2, cbLists2, FbLists2, bWant3.length, abWant3, pbWant3, cbWant3, FbWant3, bKeys4.length, abKeys4, pbKeys4, cbKeys4, FbKeys4, bWantK5.length, abWantK5, pbWantK5, cbWantK5, FbWantK5, (EnvHas.cons rfl (EnvHas.cons rfl (EnvHas.cons rfl (EnvHas.cons rfl (EnvHas.cons rfl EnvHas.nil))))), h278, hf28_0, hf42_0, hf56_0, hbLists2, hbWant3, hbKeys4, hbWantK5⟩
    ·
      replace hR := ifF hR hc234
      refine W.condF (congrArg Value.bool (decide_eq_false hc234)) ?_
      refine W.seq_k fun K280 hK280 => ?_
      refine W.regionT [(0, true), (1, true)] (by kernel_rfl) ?_
      refine Plan.cmpP (a := (oKind6 : Int)) (b := (2 : Int)) (p := oKind6 = 2) rfl rfl rfl rfl icmp_eq ?_
      refine Plan.assign_bool rfl rfl ?_
      refine Plan.nil ?_
      refine hK280 _ _ ?_; clear hK280
      by_cases hc281 : oKind6 = 2
      ·
        replace hR := ifT hR hc281
        refine W.condT (congrArg Value.bool (decide_eq_true hc281)) ?_
        refine W.regionD FLaw03.mixed [(0, true), (1, true), (3, true), (4, true), (6, true), (7, true), (2, false), (5, false), (8, false), (9, false), (10, true), (11, true)] (by kernel_rfl) ?_
        have h282 := h58.drew
        refine Plan.move_slice rfl rfl ?_
        refine Plan.move_slice rfl rfl ?_
        refine Plan.fieldAddr 1 FLaw03.fld81_1 rfl rfl ?_
        refine Plan.load0 h282 4 rfl rfl rfl (by omega) FLaw03.sc22 ?_
        refine Plan.fieldAddr 2 FLaw03.fld81_2 rfl rfl ?_
        refine Plan.load0 h282 5 rfl rfl rfl (by omega) FLaw03.sc22 ?_
        obtain ⟨x_284, hr283, hR⟩ := hR
        refine Plan.call (vs := [.slice (if cy0_26 = 0 then (ay0_23 : Option Addr) else (ay0_23 : Option Addr).map (·.add (0 * 1))) ((((x_22.length : Nat) : Int) - 3).toNat - 0) (cy0_26 - 0), .slice (if cy0_40 = 0 then (ay0_37 : Option Addr) else (ay0_37 : Option Addr).map (·.add (0 * 1))) ((((x_36.length : Nat) : Int) - 3).toNat - 0) (cy0_40 - 0)]) rfl FLaw03.call37 rfl (kdf_Extract_ok (iG0 := iG0 + 16) hG0 (iG1 := iG1 + 16) hG1 (by exact ((hf28_0.bx 2 rfl).seg (lo := 0) (hi := (((x_22.length : Nat) : Int) - 3).toNat) hc61)) (by exact ((hf42_0.bx 1 rfl).seg (lo := 0) (hi := (((x_36.length : Nat) : Int) - 3).toNat) hc65)) hr283 h282) ?_
        rintro _ w285 ⟨rfl, h285⟩
        refine ⟨_, rfl, .inl ⟨PIn.keep (PIn.cons 5 rfl (PIn.cons 4 rfl PIn.nil)) h285, ?_⟩⟩
        obtain ⟨x_287, hr286, hR⟩ := hR
        refine Plan.call (vs := [.slice aoKey7 oKey7.length coKey7]) rfl FLaw03.call33 rfl (lethelaw03_short_ok (hoKey7.app [_, _, _, _, _, _, _, _, _, _, _, _, _, _, _, _]) hr286 h285) ?_
        rintro _ w291 ⟨ay0_288, ny0_289, cy0_290, rfl, h291, hf291_0⟩
        obtain rfl := hf291_0.hl
        refine ⟨_, rfl, .inl ⟨PIn.keep (PIn.cons 5 rfl (PIn.cons 4 rfl PIn.nil)) h291, ?_⟩⟩
        obtain ⟨x_293, hr292, hR⟩ := hR
        refine Plan.call (vs := [.slice aoA8 oA8.length coA8]) rfl FLaw03.call33 rfl (lethelaw03_short_ok (hoA8.app [_, _, _, _, _, _, _, _, _, _, _, _, _, _, _, _]) hr292 h291) ?_
        rintro _ w297 ⟨ay0_294, ny0_295, cy0_296, rfl, h297, hf297_0⟩
        obtain rfl := hf297_0.hl
        refine ⟨_, rfl, .inl ⟨PIn.keep (PIn.cons 5 rfl (PIn.cons 4 rfl PIn.nil)) h297, ?_⟩⟩
        obtain ⟨x_299, hr298, hR⟩ := hR
        refine Plan.call (vs := [.slice ay0_288 x_287.length cy0_290, .slice ay0_294 x_293.length cy0_296]) rfl FLaw03.call60 rfl (letheref03_Extract_ok (iG2 := iG2 + 16) hG2 (iG3 := iG3 + 16) hG3 ((Bx.unapp (D := [_, _, _, _, _, _, _, _, _, _, _, _, _, _, _, _]) hf291_0).app [_, _, _, _, _, _, _, _, _, _, _, _, _, _, _, _]) ((Bx.unapp (D := [_, _, _, _, _, _, _, _, _, _, _, _, _, _, _, _]) hf297_0).app [_, _, _, _, _, _, _, _, _, _, _, _, _, _, _, _]) hr298 h297) ?_
        rintro _ w300 ⟨rfl, h300⟩
        refine ⟨_, rfl, .inl ⟨PIn.keep (PIn.cons 5 rfl (PIn.cons 4 rfl PIn.nil)) h300, ?_⟩⟩
        refine Plan.eqArrV (b := (eqB 32 x_284 x_299)) FLaw03.arrI32 rfl rfl rfl rfl ?_
        refine Plan.assign_bool rfl rfl ?_
        refine Plan.nil ?_
        refine blockR_norm ?_
        have h301 := St.pickT (C := [_, _, _, _, _, _, _, _, _, _, _, _, _, _, _, _]) h300 [2, 1, 0, 9, 11, 13, 15, 3, 4, 5, 6, 7, 8, 10, 12, 14] (by decide)
        simp only [pick, List.filterMap_cons, List.filterMap_nil, List.getElem?_cons_zero, List.getElem?_cons_succ, List.cons_append, List.nil_append] at h301
        obtain ⟨CF302, hx302, hy302⟩ := hFj231
        exact ⟨x_22, x_36, x_50, (eqB 32 x_284 x_299), bLists2, bWant3, bKeys4, bWantK5, hR, CF302, L, hx302, LP, hy302, L, rfl, LP, rfl, hLP, ay0_23, py0_24, cy0_26, Fy0_27, ay0_37, py0_38, cy0_40, Fy0_41, ay0_51, py0_52, cy0_54, Fy0_55, bLists2.length, abLists2, pbLists2, cbLists2, FbLists2, bWant3.length, abWant3, pbWant3, cbWant3, FbWant3, bKeys4.length, abKeys4, pbKeys4, cbKeys4, FbKeys4, bWantK5.length, abWantK5, pbWantK5, cbWantK5, FbWantK5, (EnvHas.cons rfl (EnvHas.cons rfl (EnvHas.cons rfl (EnvHas.cons rfl (EnvHas.cons rfl EnvHas.nil))))), h301, hf28_0, hf42_0, hf56_0, hbLists2, hbWant3, hbKeys4, hbWantK5⟩
      ·
        replace hR := ifF hR hc281
        refine W.condF (congrArg Value.bool (decide_eq_false hc281)) ?_
        refine W.seq_k fun K303 hK303 => ?_
        obtain ⟨t306, hX307, hR0307⟩ := hR
        refine W.cutN (fun e w => ∃ y_t306 : Bool, (t306 = y_t306) ∧ EnvHas e [(0, .pointer (some ⟨bb1, 0, none⟩)), (3, .pointer (some ⟨b12, 0, none⟩)), (5, .slice ay0_23 x_22.length cy0_26), (6, .slice ay0_37 x_36.length cy0_40), (7, .slice ay0_51 x_50.length cy0_54), (8, .slice (if cy0_26 = 0 then (ay0_23 : Option Addr) else (ay0_23 : Option Addr).map (·.add (0 * 1))) ((((x_22.length : Nat) : Int) - 3).toNat - 0) (cy0_26 - 0)), (9, .slice (if cy0_40 = 0 then (ay0_37 : Option Addr) else (ay0_37 : Option Addr).map (·.add (0 * 1))) ((((x_36.length : Nat) : Int) - 3).toNat - 0) (cy0_40 - 0)), (10, .slice (if cy0_54 = 0 then (ay0_51 : Option Addr) else (ay0_51 : Option Addr).map (·.add (0 * 1))) ((((x_50.length : Nat) : Int) - 3).toNat - 0) (cy0_54 - 0)), (11, .bool true), (40, .int .i64 oKind6), (78, .bool y_t306)] ∧ St B w0 (⟨py0_52, 0, cy0_54, fun q => VU .u8 (Fy0_55 q), true⟩ :: ⟨py0_38, 0, cy0_40, fun q => VU .u8 (Fy0_41 q), true⟩ :: ⟨py0_24, 0, cy0_26, fun q => VU .u8 (Fy0_27 q), true⟩ :: ⟨some b12, 0, 1, fun _ => .int .i64 oKind6, true⟩ :: ⟨some b12, 1, 1, fun _ => .slice aoKey7 oKey7.length coKey7, true⟩ :: ⟨some b12, 2, 1, fun _ => .slice aoA8 oA8.length coA8, true⟩ :: ⟨some b12, 3, 1, fun _ => .slice aoB9 oB9.length coB9, true⟩ :: ⟨some b12, 4, 1, fun _ => .int .i64 oN10, true⟩ :: ⟨some bb1, 0, 1, fun _ => .slice abLists2 bLists2.length cbLists2, true⟩ :: ⟨pbLists2, 0, cbLists2 * 1, FbLists2, true⟩ :: ⟨some bb1, 1, 1, fun _ => .slice abWant3 bWant3.length cbWant3, true⟩ :: ⟨pbWant3, 0, cbWant3 * 1, FbWant3, true⟩ :: ⟨some bb1, 2, 1, fun _ => .slice abKeys4 bKeys4.length cbKeys4, true⟩ :: ⟨pbKeys4, 0, cbKeys4 * 1, FbKeys4, true⟩ :: ⟨some bb1, 3, 1, fun _ => .slice abWantK5 bWantK5.length cbWantK5, true⟩ :: ⟨pbWantK5, 0, cbWantK5 * 1, FbWantK5, true⟩ :: L) w) ?_ ?_
        ·
          replace hR := hX307
          refine W.seq_k fun K308 hK308 => ?_
          refine W.regionT [(0, true), (1, true)] (by kernel_rfl) ?_
          refine Plan.cmpP (a := (oKind6 : Int)) (b := (3 : Int)) (p := oKind6 = 3) rfl rfl rfl rfl icmp_eq ?_
          refine Plan.assign_bool rfl rfl ?_
          refine Plan.nil ?_
          refine hK308 _ _ ?_; clear hK308
          by_cases hc309 : oKind6 = 3
          ·
            replace hR := ifT hR hc309
            refine W.condT (congrArg Value.bool (decide_eq_true hc309)) ?_
            refine W.skip ?_
            exact ⟨(decide (oKind6 = 3)), hR, (EnvHas.cons rfl (EnvHas.cons rfl (EnvHas.cons rfl (EnvHas.cons rfl (EnvHas.cons rfl (EnvHas.cons rfl (EnvHas.cons rfl (EnvHas.cons rfl (EnvHas.cons rfl (EnvHas.cons rfl (EnvHas.cons rfl EnvHas.nil))))))))))), h58⟩
          ·
            replace hR := ifF hR hc309
            refine W.condF (congrArg Value.bool (decide_eq_false hc309)) ?_
            refine W.regionT [(0, true), (1, true)] (by kernel_rfl) ?_
            refine Plan.cmpP (a := (oKind6 : Int)) (b := (4 : Int)) (p := oKind6 = 4) rfl rfl rfl rfl icmp_eq ?_
            refine Plan.assign_bool rfl rfl ?_
            refine Plan.nil ?_
            exact ⟨(decide (oKind6 = 4)), hR, (EnvHas.cons rfl (EnvHas.cons rfl (EnvHas.cons rfl (EnvHas.cons rfl (EnvHas.cons rfl (EnvHas.cons rfl (EnvHas.cons rfl (EnvHas.cons rfl (EnvHas.cons rfl (EnvHas.cons rfl (EnvHas.cons rfl EnvHas.nil))))))))))), h58⟩
        ·
          rintro ev310 wl310 ⟨y_t306, hy310_0, he310, h310⟩
          subst hy310_0
          obtain ⟨ev310, rfl⟩ := he310.open
          replace hR := hR0307
          refine hK303 _ _ ?_; clear hK303
          by_cases hc311 : t306 = true
          ·
            replace hR := ifT hR hc311
            refine W.condT (congrArg Value.bool hc311) ?_
            refine W.regionT [(0, true), (1, true), (2, true), (3, true), (4, true), (5, false), (6, true)] (by kernel_rfl) ?_
            refine Plan.move_ptr rfl rfl ?_
            refine Plan.loadA h310 rfl rfl (.cons 3 rfl (.cons 4 rfl (.cons 5 rfl (.cons 6 rfl (.cons 7 rfl .nil))))) FLaw03.agg81 ?_
            refine Plan.move_slice rfl rfl ?_
            refine Plan.move_slice rfl rfl ?_
            refine Plan.move_slice rfl rfl ?_
            have h312 := St.pickT (C := [_, _, _, _, _, _, _, _, _, _, _, _, _, _, _, _]) h310 [8, 9, 10, 11, 12, 13, 14, 15, 0, 1, 2, 3, 4, 5, 6, 7] (by decide)
            simp only [pick, List.filterMap_cons, List.filterMap_nil, List.getElem?_cons_zero, List.getElem?_cons_succ, List.cons_append, List.nil_append] at h312
            obtain ⟨x_314, x_315, x_316, x_317, x_318, hr313, hR⟩ := hR
            refine Plan.call (vs := [.pointer (some ⟨bb1, 0, none⟩), AG [(1, fun _ => .int .i64 oKind6), (1, fun _ => .slice aoKey7 oKey7.length coKey7), (1, fun _ => .slice aoA8 oA8.length coA8), (1, fun _ => .slice aoB9 oB9.length coB9), (1, fun _ => .int .i64 oN10)], .slice (if cy0_26 = 0 then (ay0_23 : Option Addr) else (ay0_23 : Option Addr).map (·.add (0 * 1))) ((((x_22.length : Nat) : Int) - 3).toNat - 0) (cy0_26 - 0), .slice (if cy0_40 = 0 then (ay0_37 : Option Addr) else (ay0_37 : Option Addr).map (·.add (0 * 1))) ((((x_36.length : Nat) : Int) - 3).toNat - 0) (cy0_40 - 0), .slice (if cy0_54 = 0 then (ay0_51 : Option Addr) else (ay0_51 : Option Addr).map (·.add (0 * 1))) ((((x_50.length : Nat) : Int) - 3).toNat - 0) (cy0_54 - 0)]) rfl FLaw03.call61 rfl (lethelaw03_Book_lists_ok (iG0 := iG0 + 8) hG0 (iG1 := iG1 + 8) hG1 (iG2 := iG2 + 8) hG2 (iG3 := iG3 + 8) hG3 (LP := LP) (by exact fun r hr => List.mem_append_right [_, _, _, _, _, _, _, _] (hLP r hr)) (by exact LO.grow D22_lifts (fun r hr => hr) hbLists2) (by exact LO.grow D22_lifts (fun r hr => hr) hbWant3) (by exact LO.grow D62_lifts (fun r hr => hr) hbKeys4) (by exact LO.grow D62_lifts (fun r hr => hr) hbWantK5) (by exact qoKey7) (by exact qoA8) (by exact qoB9) (by exact ((hf28_0.bx 2 rfl).seg (lo := 0) (hi := (((x_22.length : Nat) : Int) - 3).toNat) hc61)) (by exact ((hf42_0.bx 1 rfl).seg (lo := 0) (hi := (((x_36.length : Nat) : Int) - 3).toNat) hc65)) (by exact ((hf56_0.bx 0 rfl).seg (lo := 0) (hi := (((x_50.length : Nat) : Int) - 3).toNat) hc69)) hr313 h312) ?_
            rintro _ w339 ⟨C339, aqbLists2_319, pqbLists2_320, nqbLists2_321, cqbLists2_322, FqbLists2_323, aqbWant3_324, pqbWant3_325, nqbWant3_326, cqbWant3_327, FqbWant3_328, aqbKeys4_329, pqbKeys4_330, nqbKeys4_331, cqbKeys4_332, FqbKeys4_333, aqbWantK5_334, pqbWantK5_335, nqbWantK5_336, cqbWantK5_337, FqbWantK5_338, rfl, h339, hf339_0, hf339_1, hf339_2, hf339_3⟩
            try dsimp only at hf339_0 hf339_1 hf339_2 hf339_3
            obtain rfl := hf339_0.hl
            obtain rfl := hf339_1.hl
            obtain rfl := hf339_2.hl
            obtain rfl := hf339_3.hl
            replace h339 := St.pool (N := [_, _, _, _, _, _, _, _]) (R := [_, _, _, _, _, _, _, _]) h339
            obtain ⟨L, hL340⟩ : ∃ X, X = C339 ++ L := ⟨_, rfl⟩
            obtain ⟨LP, hQ340⟩ : ∃ X, X = C339 ++ LP := ⟨_, rfl⟩
            replace hLP : ∀ r ∈ LP, r ∈ L := by rw [hQ340, hL340]; exact frMemGrow hLP
            have h340 := St.re (N := [_, _, _, _, _, _, _, _, _, _, _, _, _, _, _, _]) hL340 h339
            simp only [List.cons_append, List.nil_append] at h340
            replace hFr : Fr2 _ _ L LP := hFr.step hL340 hQ340
            replace hFj231 : Fr2 _ _ L LP := hFj231.step hL340 hQ340
            obtain ⟨ix341, hv341⟩ : ∃ i, Bx L i aoKey7 oKey7.length coKey7 oKey7 := ⟨_, by rw [hL340]; exact hoKey7.app _⟩
            have hp341 : ∃ i, Bx LP i aoKey7 oKey7.length coKey7 oKey7 := by rw [hQ340]; exact ⟨_, qoKey7.choose_spec.app _⟩
            obtain ⟨ix342, hv342⟩ : ∃ i, Bx L i aoA8 oA8.length coA8 oA8 := ⟨_, by rw [hL340]; exact hoA8.app _⟩
            have hp342 : ∃ i, Bx LP i aoA8 oA8.length coA8 oA8 := by rw [hQ340]; exact ⟨_, qoA8.choose_spec.app _⟩
            obtain ⟨ix343, hv343⟩ : ∃ i, Bx L i aoB9 oB9.length coB9 oB9 := ⟨_, by rw [hL340]; exact hoB9.app _⟩
            have hp343 : ∃ i, Bx LP i aoB9 oB9.length coB9 oB9 := by rw [hQ340]; exact ⟨_, qoB9.choose_spec.app _⟩
            have ho344 : LO (D22.at LP) [] aqbLists2_319 pqbLists2_320 (x_315).length cqbLists2_322 FqbLists2_323 x_315 := LO.grow D22_lifts (fun r hr => (by rw [hQ340]; exact hr)) hf339_0
            have ho345 : LO (D22.at LP) [] aqbWant3_324 pqbWant3_325 (x_316).length cqbWant3_327 FqbWant3_328 x_316 := LO.grow D22_lifts (fun r hr => (by rw [hQ340]; exact hr)) hf339_1
            have ho346 : LO (D62.at LP) [] aqbKeys4_329 pqbKeys4_330 (x_317).length cqbKeys4_332 FqbKeys4_333 x_317 := LO.grow D62_lifts (fun r hr => (by rw [hQ340]; exact hr)) hf339_2
            have ho347 : LO (D62.at LP) [] aqbWantK5_334 pqbWantK5_335 (x_318).length cqbWantK5_337 FqbWantK5_338 x_318 := LO.grow D62_lifts (fun r hr => (by rw [hQ340]; exact hr)) hf339_3
            refine ⟨_, rfl, .inr ⟨rfl, ?_⟩⟩
            refine Plan.assign_bool rfl rfl ?_
            refine Plan.nil ?_
            refine blockR_norm ?_
            have h348 := St.pickT (C := [_, _, _, _, _, _, _, _, _, _, _, _, _, _, _, _]) h340 [10, 9, 8, 1, 3, 5, 7, 11, 12, 13, 14, 15, 0, 2, 4, 6] (by decide)
            simp only [pick, List.filterMap_cons, List.filterMap_nil, List.getElem?_cons_zero, List.getElem?_cons_succ, List.cons_append, List.nil_append] at h348
            obtain ⟨CF349, hx349, hy349⟩ := hFj231
            exact ⟨x_22, x_36, x_50, x_314, x_315, x_316, x_317, x_318, hR, CF349, L, hx349, LP, hy349, L, rfl, LP, rfl, hLP, ay0_23, py0_24, cy0_26, Fy0_27, ay0_37, py0_38, cy0_40, Fy0_41, ay0_51, py0_52, cy0_54, Fy0_55, x_315.length, aqbLists2_319, pqbLists2_320, cqbLists2_322, FqbLists2_323, x_316.length, aqbWant3_324, pqbWant3_325, cqbWant3_327, FqbWant3_328, x_317.length, aqbKeys4_329, pqbKeys4_330, cqbKeys4_332, FqbKeys4_333, x_318.length, aqbWantK5_334, pqbWantK5_335, cqbWantK5_337, FqbWantK5_338, (EnvHas.cons rfl (EnvHas.cons rfl (EnvHas.cons rfl (EnvHas.cons rfl (EnvHas.cons rfl EnvHas.nil))))), h348, hf28_0, hf42_0, hf56_0, ho344, ho345, ho346, ho347⟩
          ·
            replace hR := ifF hR hc311
            refine W.condF (congrArg Value.bool (Bool.eq_false_iff.2 hc311)) ?_
            refine W.seq_k fun K350 hK350 => ?_
            refine W.regionT [(0, true), (1, true)] (by kernel_rfl) ?_
            refine Plan.cmpP (a := (oKind6 : Int)) (b := (5 : Int)) (p := oKind6 = 5) rfl rfl rfl rfl icmp_eq ?_
            refine Plan.assign_bool rfl rfl ?_
            refine Plan.nil ?_
            refine hK350 _ _ ?_; clear hK350
            by_cases hc351 : oKind6 = 5
            ·
              replace hR := ifT hR hc351
              refine W.condT (congrArg Value.bool (decide_eq_true hc351)) ?_
              refine W.regionT [(0, true), (1, true), (2, true), (3, true), (4, true), (5, true), (6, false), (7, true)] (by kernel_rfl) ?_
              refine Plan.move_ptr rfl rfl ?_
              refine Plan.move_slice rfl rfl ?_
              refine Plan.move_slice rfl rfl ?_
              refine Plan.move_slice rfl rfl ?_
              refine Plan.fieldAddr 4 FLaw03.fld81_4 rfl rfl ?_
              refine Plan.load0 h310 7 rfl rfl rfl (by omega) FLaw03.sc3 ?_
              have h352 := St.pickT (C := [_, _, _, _, _, _, _, _, _, _, _, _, _, _, _, _]) h310 [8, 9, 10, 11, 12, 13, 14, 15, 0, 1, 2, 3, 4, 5, 6, 7] (by decide)
              simp only [pick, List.filterMap_cons, List.filterMap_nil, List.getElem?_cons_zero, List.getElem?_cons_succ, List.cons_append, List.nil_append] at h352
              obtain ⟨x_354, x_355, x_356, x_357, x_358, hr353, hR⟩ := hR
              refine Plan.call (vs := [.pointer (some ⟨bb1, 0, none⟩), .slice (if cy0_26 = 0 then (ay0_23 : Option Addr) else (ay0_23 : Option Addr).map (·.add (0 * 1))) ((((x_22.length : Nat) : Int) - 3).toNat - 0) (cy0_26 - 0), .slice (if cy0_40 = 0 then (ay0_37 : Option Addr) else (ay0_37 : Option Addr).map (·.add (0 * 1))) ((((x_36.length : Nat) : Int) - 3).toNat - 0) (cy0_40 - 0), .slice (if cy0_54 = 0 then (ay0_51 : Option Addr) else (ay0_51 : Option Addr).map (·.add (0 * 1))) ((((x_50.length : Nat) : Int) - 3).toNat - 0) (cy0_54 - 0), .int .i64 oN10]) rfl FLaw03.call62 rfl (lethelaw03_Book_keys_ok (iG0 := iG0 + 8) hG0 (iG1 := iG1 + 8) hG1 (iG2 := iG2 + 8) hG2 (iG3 := iG3 + 8) hG3 (LP := LP) (by exact fun r hr => List.mem_append_right [_, _, _, _, _, _, _, _] (hLP r hr)) (by exact LO.grow D22_lifts (fun r hr => hr) hbLists2) (by exact LO.grow D22_lifts (fun r hr => hr) hbWant3) (by exact LO.grow D62_lifts (fun r hr => hr) hbKeys4) (by exact LO.grow D62_lifts (fun r hr => hr) hbWantK5) (by exact ((hf28_0.bx 2 rfl).seg (lo := 0) (hi := (((x_22.length : Nat) : Int) - 3).toNat) hc61)) (by exact ((hf42_0.bx 1 rfl).seg (lo := 0) (hi := (((x_36.length : Nat) : Int) - 3).toNat) hc65)) (by exact ((hf56_0.bx 0 rfl).seg (lo := 0) (hi := (((x_50.length : Nat) : Int) - 3).toNat) hc69)) hr353 h352) ?_
              rintro _ w379 ⟨C379, aqbLists2_359, pqbLists2_360, nqbLists2_361, cqbLists2_362, FqbLists2_363, aqbWant3_364, pqbWant3_365, nqbWant3_366, cqbWant3_367, FqbWant3_368, aqbKeys4_369, pqbKeys4_370, nqbKeys4_371, cqbKeys4_372, FqbKeys4_373, aqbWantK5_374, pqbWantK5_375, nqbWantK5_376, cqbWantK5_377, FqbWantK5_378, rfl, h379, hf379_0, hf379_1, hf379_2, hf379_3⟩
              try dsimp only at hf379_0 hf379_1 hf379_2 hf379_3
              obtain rfl := hf379_0.hl
              obtain rfl := hf379_1.hl
              obtain rfl := hf379_2.hl
              obtain rfl := hf379_3.hl
              replace h379 := St.pool (N := [_, _, _, _, _, _, _, _]) (R := [_, _, _, _, _, _, _, _]) h379
              obtain ⟨L, hL380⟩ : ∃ X, X = C379 ++ L := ⟨_, rfl⟩
              obtain ⟨LP, hQ380⟩ : ∃ X, X = C379 ++ LP := ⟨_, rfl⟩
              replace hLP : ∀ r ∈ LP, r ∈ L := by rw [hQ380, hL380]; exact frMemGrow hLP
              have h380 := St.re (N := [_, _, _, _, _, _, _, _, _, _, _, _, _, _, _, _]) hL380 h379
              simp only [List.cons_append, List.nil_append] at h380
              replace hFr : Fr2 _ _ L LP := hFr.step hL380 hQ380
              replace hFj231 : Fr2 _ _ L LP := hFj231.step hL380 hQ380
              obtain ⟨ix381, hv381⟩ : ∃ i, Bx L i aoKey7 oKey7.length coKey7 oKey7 := ⟨_, by rw [hL380]; exact hoKey7.app _⟩
              have hp381 : ∃ i, Bx LP i aoKey7 oKey7.length coKey7 oKey7 := by rw [hQ380]; exact ⟨_, qoKey7.choose_spec.app _⟩
              obtain ⟨ix382, hv382⟩ : ∃ i, Bx L i aoA8 oA8.length coA8 oA8 := ⟨_, by rw [hL380]; exact hoA8.app _⟩
              have hp382 : ∃ i, Bx LP i aoA8 oA8.length coA8 oA8 := by rw [hQ380]; exact ⟨_, qoA8.choose_spec.app _⟩
              obtain ⟨ix383, hv383⟩ : ∃ i, Bx L i aoB9 oB9.length coB9 oB9 := ⟨_, by rw [hL380]; exact hoB9.app _⟩
              have hp383 : ∃ i, Bx LP i aoB9 oB9.length coB9 oB9 := by rw [hQ380]; exact ⟨_, qoB9.choose_spec.app _⟩
              have ho384 : LO (D22.at LP) [] aqbLists2_359 pqbLists2_360 (x_355).length cqbLists2_362 FqbLists2_363 x_355 := LO.grow D22_lifts (fun r hr => (by rw [hQ380]; exact hr)) hf379_0
              have ho385 : LO (D22.at LP) [] aqbWant3_364 pqbWant3_365 (x_356).length cqbWant3_367 FqbWant3_368 x_356 := LO.grow D22_lifts (fun r hr => (by rw [hQ380]; exact hr)) hf379_1
              have ho386 : LO (D62.at LP) [] aqbKeys4_369 pqbKeys4_370 (x_357).length cqbKeys4_372 FqbKeys4_373 x_357 := LO.grow D62_lifts (fun r hr => (by rw [hQ380]; exact hr)) hf379_2
              have ho387 : LO (D62.at LP) [] aqbWantK5_374 pqbWantK5_375 (x_358).length cqbWantK5_377 FqbWantK5_378 x_358 := LO.grow D62_lifts (fun r hr => (by rw [hQ380]; exact hr)) hf379_3
              refine ⟨_, rfl, .inr ⟨rfl, ?_⟩⟩
              refine Plan.assign_bool rfl rfl ?_
              refine Plan.nil ?_
              refine blockR_norm ?_
              have h388 := St.pickT (C := [_, _, _, _, _, _, _, _, _, _, _, _, _, _, _, _]) h380 [10, 9, 8, 1, 3, 5, 7, 11, 12, 13, 14, 15, 0, 2, 4, 6] (by decide)
              simp only [pick, List.filterMap_cons, List.filterMap_nil, List.getElem?_cons_zero, List.getElem?_cons_succ, List.cons_append, List.nil_append] at h388
              obtain ⟨CF389, hx389, hy389⟩ := hFj231
              exact ⟨x_22, x_36, x_50, x_354, x_355, x_356, x_357, x_358, hR, CF389, L, hx389, LP, hy389, L, rfl, LP, rfl, hLP, ay0_23, py0_24, cy0_26, Fy0_27, ay0_37, py0_38, cy0_40, Fy0_41, ay0_51, py0_52, cy0_54, Fy0_55, x_355.length, aqbLists2_359, pqbLists2_360, cqbLists2_362, FqbLists2_363, x_356.length, aqbWant3_364, pqbWant3_365, cqbWant3_367, FqbWant3_368, x_357.length, aqbKeys4_369, pqbKeys4_370, cqbKeys4_372, FqbKeys4_373, x_358.length, aqbWantK5_374, pqbWantK5_375, cqbWantK5_377, FqbWantK5_378, (EnvHas.cons rfl (EnvHas.cons rfl (EnvHas.cons rfl (EnvHas.cons rfl (EnvHas.cons rfl EnvHas.nil))))), h388, hf28_0, hf42_0, hf56_0, ho384, ho385, ho386, ho387⟩
            ·
              replace hR := ifF hR hc351
              refine W.condF (congrArg Value.bool (decide_eq_false hc351)) ?_
              refine W.skip ?_
              refine blockR_norm ?_
              have h390 := St.pickT (C := [_, _, _, _, _, _, _, _, _, _, _, _, _, _, _, _]) h310 [2, 1, 0, 9, 11, 13, 15, 3, 4, 5, 6, 7, 8, 10, 12, 14] (by decide)
              simp only [pick, List.filterMap_cons, List.filterMap_nil, List.getElem?_cons_zero, List.getElem?_cons_succ, List.cons_append, List.nil_append] at h390
              obtain ⟨CF391, hx391, hy391⟩ := hFj231
              exact ⟨x_22, x_36, x_50, true, bLists2, bWant3, bKeys4, bWantK5, hR, CF391, L, hx391, LP, hy391, L, rfl, LP, rfl, hLP, ay0_23, py0_24, cy0_26, Fy0_27, ay0_37, py0_38, cy0_40, Fy0_41, ay0_51, py0_52, cy0_54, Fy0_55, bLists2.length, abLists2, pbLists2, cbLists2, FbLists2, bWant3.length, abWant3, pbWant3, cbWant3, FbWant3, bKeys4.length, abKeys4, pbKeys4, cbKeys4, FbKeys4, bWantK5.length, abWantK5, pbWantK5, cbWantK5, FbWantK5, (EnvHas.cons rfl (EnvHas.cons rfl (EnvHas.cons rfl (EnvHas.cons rfl (EnvHas.cons rfl EnvHas.nil))))), h390, hf28_0, hf42_0, hf56_0, hbLists2, hbWant3, hbKeys4, hbWantK5⟩
  ·
    rintro ev392 wl392 ⟨y_k223, y_x_224, y_y225, y_ok226, y_m227, y_m228, y_m229, y_m230, ⟨hy392_0, hy392_1, hy392_2, hy392_3, hy392_4, hy392_5, hy392_6, hy392_7⟩, CG392, LG392, hlg392, QG392, hqg392, L, hLe392, LP, hQe392, hLPn392, ak223, pk223, ck223, Fk223, ax_224, px_224, cx_224, Fx_224, ay225, py225, cy225, Fy225, n_m227, am227, pm227, cm227, Fm227, n_m228, am228, pm228, cm228, Fm228, n_m229, am229, pm229, cm229, Fm229, n_m230, am230, pm230, cm230, Fm230, he392, h392, hk223, hx_224, hy225, hm227, hm228, hm229, hm230⟩
    subst hy392_0
    subst hy392_1
    subst hy392_2
    subst hy392_3
    subst hy392_4
    subst hy392_5
    subst hy392_6
    subst hy392_7
    obtain rfl : List.length (α := (List Byte)) m227 = n_m227 := hm227.hl
    obtain rfl : List.length (α := (List Byte)) m228 = n_m228 := hm228.hl
    obtain rfl : List.length (α := (List (Nat → BitVec 8))) m229 = n_m229 := hm229.hl
    obtain rfl : List.length (α := (List (Nat → BitVec 8))) m230 = n_m230 := hm230.hl
    obtain ⟨ev392, rfl⟩ := he392.open
    replace hR := hR0231
    have hL392 := hLe392.trans hlg392
    have hQ392 := hQe392.trans hqg392
    replace hLP : ∀ r ∈ LP, r ∈ L := by rw [hQ392, hL392]; exact frMemGrow hLP
    replace hFr : Fr2 _ _ L LP := hFr.step hL392 hQ392
    replace hFj231 : Fr2 _ _ L LP := hFj231.step hL392 hQ392
    obtain ⟨ix394, hv394⟩ : ∃ i, Bx L i aoKey7 oKey7.length coKey7 oKey7 := ⟨_, by rw [hL392]; exact hoKey7.app _⟩
    have hp394 : ∃ i, Bx LP i aoKey7 oKey7.length coKey7 oKey7 := by rw [hQ392]; exact ⟨_, qoKey7.choose_spec.app _⟩
    obtain ⟨ix395, hv395⟩ : ∃ i, Bx L i aoA8 oA8.length coA8 oA8 := ⟨_, by rw [hL392]; exact hoA8.app _⟩
    have hp395 : ∃ i, Bx LP i aoA8 oA8.length coA8 oA8 := by rw [hQ392]; exact ⟨_, qoA8.choose_spec.app _⟩
    obtain ⟨ix396, hv396⟩ : ∃ i, Bx L i aoB9 oB9.length coB9 oB9 := ⟨_, by rw [hL392]; exact hoB9.app _⟩
    have hp396 : ∃ i, Bx LP i aoB9 oB9.length coB9 oB9 := by rw [hQ392]; exact ⟨_, qoB9.choose_spec.app _⟩
    refine hK72 _ _ ?_; clear hK72
    refine W.seq_k fun K397 hK397 => ?_
    refine W.regionT [(0, true), (1, true), (2, true), (3, true), (4, true), (5, false), (6, false), (7, true), (8, true), (9, true), (10, true), (11, true), (12, false), (13, false), (14, true), (15, true), (16, true), (17, true), (18, true), (19, false), (20, false), (21, true), (22, true)] (by kernel_rfl) ?_
    by_cases hc398 : ok226 = true
    ·
      replace hR := ifT hR hc398
      refine Plan.move_bool (b := true) rfl (congrArg Value.bool hc398) ?_
      refine Plan.move_bool rfl rfl ?_
      refine Plan.move_slice rfl rfl ?_
      refine Plan.fieldAddr 1 FLaw03.fld81_1 rfl rfl ?_
      refine Plan.load0 h392 8 rfl rfl rfl (by omega) FLaw03.sc22 ?_
      obtain ⟨x_400, hr399, hR⟩ := hR
      refine Plan.call (vs := [.slice aoKey7 oKey7.length coKey7]) rfl FLaw03.call33 rfl (lethelaw03_short_ok (hv394.app [_, _, _, _, _, _, _, _, _, _, _, _, _, _, _, _]) hr399 h392) ?_
      rintro _ w404 ⟨ay0_401, ny0_402, cy0_403, rfl, h404, hf404_0⟩
      obtain rfl := hf404_0.hl
      refine ⟨_, rfl, .inr ⟨rfl, ?_⟩⟩
      obtain ⟨x_406, hr405, hR⟩ := hR
      refine Plan.call (vs := [.slice ak223 x_22.length ck223, .slice ay0_401 x_400.length cy0_403]) rfl FLaw03.call63 rfl (lethelaw03_Kept_ok (by exact (hk223.bx 0 rfl)) ((Bx.unapp (D := [_, _, _, _, _, _, _, _, _, _, _, _, _, _, _, _]) hf404_0).app [_, _, _, _, _, _, _, _, _, _, _, _, _, _, _, _]) hr405 h404) ?_
      rintro _ w407 ⟨rfl, h407⟩
      refine ⟨_, rfl, .inl ⟨PIn.keep PIn.nil h407, ?_⟩⟩
      by_cases hc408 : x_406 = true
      ·
        replace hR := ifT hR hc408
        obtain rfl : x_406 = true := hc408
        refine Plan.pickTb rfl rfl rfl ?_
        refine Plan.move_bool rfl rfl ?_
        refine Plan.move_slice rfl rfl ?_
        refine Plan.fieldAddr 2 FLaw03.fld81_2 rfl rfl ?_
        refine Plan.load0 h407 9 rfl rfl rfl (by omega) FLaw03.sc22 ?_
        obtain ⟨x_410, hr409, hR⟩ := hR
        refine Plan.call (vs := [.slice aoA8 oA8.length coA8]) rfl FLaw03.call33 rfl (lethelaw03_short_ok (hv395.app [_, _, _, _, _, _, _, _, _, _, _, _, _, _, _, _]) hr409 h407) ?_
        rintro _ w414 ⟨ay0_411, ny0_412, cy0_413, rfl, h414, hf414_0⟩
        obtain rfl := hf414_0.hl
        refine ⟨_, rfl, .inr ⟨rfl, ?_⟩⟩
        obtain ⟨x_416, hr415, hR⟩ := hR
        refine Plan.call (vs := [.slice ax_224 x_36.length cx_224, .slice ay0_411 x_410.length cy0_413]) rfl FLaw03.call63 rfl (lethelaw03_Kept_ok (by exact (hx_224.bx 1 rfl)) ((Bx.unapp (D := [_, _, _, _, _, _, _, _, _, _, _, _, _, _, _, _]) hf414_0).app [_, _, _, _, _, _, _, _, _, _, _, _, _, _, _, _]) hr415 h414) ?_
        rintro _ w417 ⟨rfl, h417⟩
        refine ⟨_, rfl, .inl ⟨PIn.keep PIn.nil h417, ?_⟩⟩
        by_cases hc418 : x_416 = true
        ·
          replace hR := ifT hR hc418
          obtain rfl : x_416 = true := hc418
          refine Plan.pickTb rfl rfl rfl ?_
          refine Plan.move_bool rfl rfl ?_
          refine Plan.move_slice rfl rfl ?_
          refine Plan.fieldAddr 3 FLaw03.fld81_3 rfl rfl ?_
          refine Plan.load0 h417 10 rfl rfl rfl (by omega) FLaw03.sc22 ?_
          obtain ⟨x_420, hr419, hR⟩ := hR
          refine Plan.call (vs := [.slice aoB9 oB9.length coB9]) rfl FLaw03.call33 rfl (lethelaw03_short_ok (hv396.app [_, _, _, _, _, _, _, _, _, _, _, _, _, _, _, _]) hr419 h417) ?_
          rintro _ w424 ⟨ay0_421, ny0_422, cy0_423, rfl, h424, hf424_0⟩
          obtain rfl := hf424_0.hl
          refine ⟨_, rfl, .inr ⟨rfl, ?_⟩⟩
          obtain ⟨x_426, hr425, hR⟩ := hR
          refine Plan.call (vs := [.slice ay225 x_50.length cy225, .slice ay0_421 x_420.length cy0_423]) rfl FLaw03.call63 rfl (lethelaw03_Kept_ok (by exact (hy225.bx 2 rfl)) ((Bx.unapp (D := [_, _, _, _, _, _, _, _, _, _, _, _, _, _, _, _]) hf424_0).app [_, _, _, _, _, _, _, _, _, _, _, _, _, _, _, _]) hr425 h424) ?_
          rintro _ w427 ⟨rfl, h427⟩
          refine ⟨_, rfl, .inl ⟨PIn.keep PIn.nil h427, ?_⟩⟩
          refine Plan.pickTb rfl rfl rfl ?_
          refine Plan.assign_bool rfl rfl ?_
          refine Plan.nil ?_
          refine hK397 _ _ ?_; clear hK397
          refine W.ret (finR_ret ?_)
          have h428 := St.pickT (C := [_, _, _, _, _, _, _, _, _, _, _, _, _, _, _, _]) h427 [12, 3, 13, 4, 14, 5, 15, 6] (by decide)
          simp only [pick, List.filterMap_cons, List.filterMap_nil, List.getElem?_cons_zero, List.getElem?_cons_succ, List.cons_append, List.nil_append] at h428
          subst r
          refine RetOk.mk (.tmp_bool rfl .nil) ?_
          obtain ⟨CF, hx1, hx2⟩ := hFr
          subst hx1
          subst hx2
          exact ⟨_, am227, pm227, m227.length, cm227, Fm227, am228, pm228, m228.length, cm228, Fm228, am229, pm229, m229.length, cm229, Fm229, am230, pm230, m230.length, cm230, Fm230, rfl, h428, hm227, hm228, hm229, hm230⟩
        ·
          replace hR := ifF hR hc418
          obtain rfl : x_416 = false := Bool.eq_false_iff.2 hc418
          refine Plan.pickTb rfl rfl rfl ?_
          refine Plan.move_bool rfl rfl ?_
          refine Plan.passed rfl ?_
          refine Plan.passed rfl ?_
          refine Plan.passed rfl ?_
          refine Plan.passed rfl ?_
          refine Plan.passed rfl ?_
          refine Plan.pickFb rfl rfl rfl ?_
          refine Plan.assign_bool rfl rfl ?_
          refine Plan.nil ?_
          refine hK397 _ _ ?_; clear hK397
          refine W.ret (finR_ret ?_)
          have h429 := St.pickT (C := [_, _, _, _, _, _, _, _, _, _, _, _, _, _, _, _]) h417 [12, 3, 13, 4, 14, 5, 15, 6] (by decide)
          simp only [pick, List.filterMap_cons, List.filterMap_nil, List.getElem?_cons_zero, List.getElem?_cons_succ, List.cons_append, List.nil_append] at h429
          subst r
          refine RetOk.mk (.tmp_bool rfl .nil) ?_
          obtain ⟨CF, hx1, hx2⟩ := hFr
          subst hx1
          subst hx2
          exact ⟨_, am227, pm227, m227.length, cm227, Fm227, am228, pm228, m228.length, cm228, Fm228, am229, pm229, m229.length, cm229, Fm229, am230, pm230, m230.length, cm230, Fm230, rfl, h429, hm227, hm228, hm229, hm230⟩
      ·
        replace hR := ifF hR hc408
        obtain rfl : x_406 = false := Bool.eq_false_iff.2 hc408
        refine Plan.pickTb rfl rfl rfl ?_
        refine Plan.move_bool rfl rfl ?_
        refine Plan.passed rfl ?_
        refine Plan.passed rfl ?_
        refine Plan.passed rfl ?_
        refine Plan.passed rfl ?_
        refine Plan.passed rfl ?_
        refine Plan.pickFb rfl rfl rfl ?_
        refine Plan.move_bool rfl rfl ?_
        refine Plan.passed rfl ?_
        refine Plan.passed rfl ?_
        refine Plan.passed rfl ?_
        refine Plan.passed rfl ?_
        refine Plan.passed rfl ?_
        refine Plan.pickFb rfl rfl rfl ?_
        refine Plan.assign_bool rfl rfl ?_
        refine Plan.nil ?_
        refine hK397 _ _ ?_; clear hK397
        refine W.ret (finR_ret ?_)
        have h430 := St.pickT (C := [_, _, _, _, _, _, _, _, _, _, _, _, _, _, _, _]) h407 [12, 3, 13, 4, 14, 5, 15, 6] (by decide)
        simp only [pick, List.filterMap_cons, List.filterMap_nil, List.getElem?_cons_zero, List.getElem?_cons_succ, List.cons_append, List.nil_append] at h430
        subst r
        refine RetOk.mk (.tmp_bool rfl .nil) ?_
        obtain ⟨CF, hx1, hx2⟩ := hFr
        subst hx1
        subst hx2
        exact ⟨_, am227, pm227, m227.length, cm227, Fm227, am228, pm228, m228.length, cm228, Fm228, am229, pm229, m229.length, cm229, Fm229, am230, pm230, m230.length, cm230, Fm230, rfl, h430, hm227, hm228, hm229, hm230⟩
    ·
      replace hR := ifF hR hc398
      refine Plan.move_bool (b := false) rfl (congrArg Value.bool (Bool.eq_false_iff.2 hc398)) ?_
      refine Plan.move_bool rfl rfl ?_
      refine Plan.passed rfl ?_
      refine Plan.passed rfl ?_
      refine Plan.passed rfl ?_
      refine Plan.passed rfl ?_
      refine Plan.passed rfl ?_
      refine Plan.pickFb rfl rfl rfl ?_
      refine Plan.move_bool rfl rfl ?_
      refine Plan.passed rfl ?_
      refine Plan.passed rfl ?_
      refine Plan.passed rfl ?_
      refine Plan.passed rfl ?_
      refine Plan.passed rfl ?_
      refine Plan.pickFb rfl rfl rfl ?_
      refine Plan.move_bool rfl rfl ?_
      refine Plan.passed rfl ?_
      refine Plan.passed rfl ?_
      refine Plan.passed rfl ?_
      refine Plan.passed rfl ?_
      refine Plan.passed rfl ?_
      refine Plan.pickFb rfl rfl rfl ?_
      refine Plan.assign_bool rfl rfl ?_
      refine Plan.nil ?_
      refine hK397 _ _ ?_; clear hK397
      refine W.ret (finR_ret ?_)
      have h431 := St.pickT (C := [_, _, _, _, _, _, _, _, _, _, _, _, _, _, _, _]) h392 [12, 3, 13, 4, 14, 5, 15, 6] (by decide)
      simp only [pick, List.filterMap_cons, List.filterMap_nil, List.getElem?_cons_zero, List.getElem?_cons_succ, List.cons_append, List.nil_append] at h431
      subst r
      refine RetOk.mk (.tmp_bool rfl .nil) ?_
      obtain ⟨CF, hx1, hx2⟩ := hFr
      subst hx1
      subst hx2
      exact ⟨_, am227, pm227, m227.length, cm227, Fm227, am228, pm228, m228.length, cm228, Fm228, am229, pm229, m229.length, cm229, Fm229, am230, pm230, m230.length, cm230, Fm230, rfl, h431, hm227, hm228, hm229, hm230⟩


set_option maxRecDepth 8000 in
set_option maxHeartbeats 1000000 in
theorem lethelaw03_Book_Holds_ok {B : Nat} {w0 w : World} {L : List Rg} {bb1 : Nat} {bLists2 : List (List Byte)} {abLists2 : Option Addr} {nbLists2 cbLists2 ibLists2 : Nat} (hbLists2 : LV (D22.at L) L ibLists2 abLists2 nbLists2 cbLists2 bLists2) {bWant3 : List (List Byte)} {abWant3 : Option Addr} {nbWant3 cbWant3 ibWant3 : Nat} (hbWant3 : LV (D22.at L) L ibWant3 abWant3 nbWant3 cbWant3 bWant3) {bKeys4 : List (List (Nat → BitVec 8))} {abKeys4 : Option Addr} {nbKeys4 cbKeys4 ibKeys4 : Nat} (hbKeys4 : LV (D62.at L) L ibKeys4 abKeys4 nbKeys4 cbKeys4 bKeys4) {bWantK5 : List (List (Nat → BitVec 8))} {abWantK5 : Option Addr} {nbWantK5 cbWantK5 ibWantK5 : Nat} (hbWantK5 : LV (D62.at L) L ibWantK5 abWantK5 nbWantK5 cbWantK5 bWantK5) {r : Bool} (hR : lethelaw03_Book_Holds bLists2 bWant3 bKeys4 bWantK5 r) (HST : St B w0 (⟨some bb1, 0, 1, fun _ => .slice abLists2 nbLists2 cbLists2, true⟩ :: ⟨some bb1, 1, 1, fun _ => .slice abWant3 nbWant3 cbWant3, true⟩ :: ⟨some bb1, 2, 1, fun _ => .slice abKeys4 nbKeys4 cbKeys4, true⟩ :: ⟨some bb1, 3, 1, fun _ => .slice abWantK5 nbWantK5 cbWantK5, true⟩ :: L) w) :
    Calls Tryd.prog 44 #[.pointer (some ⟨bb1, 0, none⟩)] w fun e w' => e = .returned (.bool r) ∧ St B w0 (⟨some bb1, 0, 1, fun _ => .slice abLists2 nbLists2 cbLists2, true⟩ :: ⟨some bb1, 1, 1, fun _ => .slice abWant3 nbWant3 cbWant3, true⟩ :: ⟨some bb1, 2, 1, fun _ => .slice abKeys4 nbKeys4 cbKeys4, true⟩ :: ⟨some bb1, 3, 1, fun _ => .slice abWantK5 nbWantK5 cbWantK5, true⟩ :: L) w' := by
  refine W.enter 90 Tryd.func44 rfl rfl rfl ?_
  unfold lethelaw03_Book_Holds at hR
  have ebLists2 := hbLists2.hl; subst ebLists2
  have ebWant3 := hbWant3.hl; subst ebWant3
  have ebKeys4 := hbKeys4.hl; subst ebKeys4
  have ebWantK5 := hbWantK5.hl; subst ebWantK5
  refine W.seq_k fun K6 hK6 => ?_
  refine W.regionT [(0, true)] (by kernel_rfl) ?_
  refine Plan.assign_bool rfl rfl ?_
  refine Plan.nil ?_
  refine hK6 _ _ ?_; clear hK6
  refine W.seq_k fun K7 hK7 => ?_
  refine W.seq_k fun K8 hK8 => ?_
  refine W.regionT [(0, true)] (by kernel_rfl) ?_
  refine Plan.assign_int rfl rfl ?_
  refine Plan.nil ?_
  refine hK8 _ _ ?_; clear hK8
  obtain ⟨x42, hI42, hR042⟩ := hR
  refine W.cutN (fun e w => x42 = some () ∧ EnvHas e [(0, .pointer (some ⟨bb1, 0, none⟩))] ∧ St B w0 (⟨some bb1, 0, 1, fun _ => .slice abLists2 bLists2.length cbLists2, true⟩ :: ⟨some bb1, 1, 1, fun _ => .slice abWant3 bWant3.length cbWant3, true⟩ :: ⟨some bb1, 2, 1, fun _ => .slice abKeys4 bKeys4.length cbKeys4, true⟩ :: ⟨some bb1, 3, 1, fun _ => .slice abWantK5 bWantK5.length cbWantK5, true⟩ :: L) w) ?_ ?_
  ·
    refine W.block ?_
    refine W.iter hI42 (fun (s42 : Nat) e w => EnvHas e [(0, .pointer (some ⟨bb1, 0, none⟩)), (3, VN s42)] ∧ St B w0 (⟨some bb1, 0, 1, fun _ => .slice abLists2 bLists2.length cbLists2, true⟩ :: ⟨some bb1, 1, 1, fun _ => .slice abWant3 bWant3.length cbWant3, true⟩ :: ⟨some bb1, 2, 1, fun _ => .slice abKeys4 bKeys4.length cbKeys4, true⟩ :: ⟨some bb1, 3, 1, fun _ => .slice abWantK5 bWantK5.length cbWantK5, true⟩ :: L) w) ⟨(EnvHas.cons rfl (EnvHas.cons rfl EnvHas.nil)), HST⟩ ?_
    rintro i_41 o42 hR hx42 ev43 wl43 ⟨he43, h43⟩
    obtain ⟨ev43, rfl⟩ := he43.open
    unfold lethelaw03_Book_Holds_l0 at hR
    refine W.seq_k fun K44 hK44 => ?_
    refine W.seq_k fun K45 hK45 => ?_
    refine W.regionT [(0, true), (1, true), (2, true), (3, true), (4, true), (5, true), (6, true)] (by kernel_rfl) ?_
    refine Plan.move_int rfl rfl ?_
    refine Plan.move_ptr rfl rfl ?_
    refine Plan.nilCheck rfl rfl ?_
    refine Plan.fieldAddr0 FLaw03.fld78_0 rfl rfl ?_
    refine Plan.load0 h43 0 rfl rfl rfl (by omega) FLaw03.sc75 ?_
    refine Plan.len FLaw03.isl75 rfl rfl ?_
    refine Plan.cmpP (a := (((i_41 : Nat) : Int) : Int)) (b := (((bLists2.length : Nat) : Int) : Int)) (p := i_41 < bLists2.length) rfl rfl rfl rfl icmp_ltN ?_
    refine Plan.nil ?_
    refine hK45 _ _ ?_; clear hK45
    by_cases hc46 : i_41 < bLists2.length
    ·
      replace hR := ifT hR hc46
      refine W.condT (congrArg Value.bool (decide_eq_true hc46)) ?_
      refine W.skip ?_
      refine hK44 _ _ ?_; clear hK44
      refine W.seq_k fun K47 hK47 => ?_
      refine W.block ?_
      refine W.seq_k fun K48 hK48 => ?_
      refine W.regionD FLaw03.mixed [(0, true), (1, true), (2, true), (3, true), (4, true), (5, true), (6, true), (7, true), (8, true), (9, true), (10, true), (11, true), (12, true), (13, true), (14, false), (15, true)] (by kernel_rfl) ?_
      have h49 := h43.drew
      refine Plan.move_ptr rfl rfl ?_
      refine Plan.nilCheck rfl rfl ?_
      refine Plan.fieldAddr0 FLaw03.fld78_0 rfl rfl ?_
      refine Plan.load0 h49 0 rfl rfl rfl (by omega) FLaw03.sc75 ?_
      refine Plan.move_int rfl rfl ?_
      obtain ⟨hc50, hR⟩ := hR
      refine Plan.idxLVS (D := (D22.at L)) (j := i_41) h49 (hbLists2.app [_, _, _, _]) FLaw03.sl75 rfl rfl rfl hc50 ?_
      refine Plan.loadLV1 (D := (D22.at L)) (X := bLists2) (j := i_41) h49 ([] : List Byte) (fun b _ => .slice b.1 b.2.1 b.2.2) (hbLists2.app [_, _, _, _]) rfl rfl hc50 rfl (fun _ _ => rfl) FLaw03.sc22 fun b51 r51 hs51 hr51 => ?_
      obtain ⟨i51_0, hv51_0⟩ := hs51
      obtain ⟨ab51, nb51, cb51⟩ := b51
      obtain rfl : ((bLists2.getD i_41 ([] : List Byte))).length = nb51 := hv51_0.hl
      refine Plan.move_ptr rfl rfl ?_
      refine Plan.nilCheck rfl rfl ?_
      refine Plan.fieldAddr 1 FLaw03.fld78_1 rfl rfl ?_
      refine Plan.load0 h49 1 rfl rfl rfl (by omega) FLaw03.sc75 ?_
      refine Plan.move_int rfl rfl ?_
      obtain ⟨hc52, hR⟩ := hR
      refine Plan.idxLVS (D := (D22.at L)) (j := i_41) h49 (hbWant3.app [_, _, _, _]) FLaw03.sl75 rfl rfl rfl hc52 ?_
      refine Plan.loadLV1 (D := (D22.at L)) (X := bWant3) (j := i_41) h49 ([] : List Byte) (fun b _ => .slice b.1 b.2.1 b.2.2) (hbWant3.app [_, _, _, _]) rfl rfl hc52 rfl (fun _ _ => rfl) FLaw03.sc22 fun b53 r53 hs53 hr53 => ?_
      obtain ⟨i53_0, hv53_0⟩ := hs53
      obtain ⟨ab53, nb53, cb53⟩ := b53
      obtain rfl : ((bWant3.getD i_41 ([] : List Byte))).length = nb53 := hv53_0.hl
      obtain ⟨x_55, hr54, hR⟩ := hR
      refine Plan.call (vs := [.slice ab51 (((bLists2.getD i_41 ([] : List Byte))).length) cb51, .slice ab53 (((bWant3.getD i_41 ([] : List Byte))).length) cb53]) rfl FLaw03.call41 rfl (lethelaw03_Eq_ok (hv51_0.app [_, _, _, _]) (hv53_0.app [_, _, _, _]) hr54 h49) ?_
      rintro _ w56 ⟨rfl, h56⟩
      refine ⟨_, rfl, .inl ⟨PIn.keep (PIn.cons (ibWant3 + 4) hr53 (PIn.cons 1 rfl (PIn.cons (ibLists2 + 4) hr51 (PIn.cons 0 rfl PIn.nil)))) h56, ?_⟩⟩
      refine Plan.not rfl rfl ?_
      refine Plan.nil ?_
      refine hK48 _ _ ?_; clear hK48
      by_cases hc57 : x_55 = true
      ·
        replace hR := ifT hR hc57
        refine W.condF (congrArg Value.bool (congrArg Bool.not hc57)) ?_
        refine W.skip ?_
        refine blockR_norm ?_
        refine hK47 _ _ ?_; clear hK47
        refine W.regionT [(0, true), (1, true), (2, true)] (by kernel_rfl) ?_
        refine Plan.move_int rfl rfl ?_
        obtain ⟨hc58, hR⟩ := hR
        refine Plan.addN (a := i_41) (b := 1) rfl rfl rfl (by omega) ?_
        refine Plan.assign_int rfl rfl ?_
        refine Plan.nil ?_
        exact iterR_norm ⟨_, hR, (EnvHas.cons rfl (EnvHas.cons rfl EnvHas.nil)), h56⟩
      ·
        replace hR := ifF hR hc57
        refine W.condT (congrArg Value.bool (congrArg Bool.not (Bool.eq_false_iff.2 hc57))) ?_
        refine W.seq_k fun K59 hK59 => ?_
        refine W.regionT [(0, true)] (by kernel_rfl) ?_
        refine Plan.assign_bool rfl rfl ?_
        refine Plan.nil ?_
        refine hK59 _ _ ?_; clear hK59
        refine W.ret (blockR_ret (thenR_ret (iterR_ret (blockR_ret (thenR_ret (thenR_ret (finR_ret ?_)))))))
        replace hR := hR.2
        subst r
        refine RetOk.mk (.tmp_bool rfl .nil) ?_
        exact ⟨rfl, h56⟩
    ·
      replace hR := ifF hR hc46
      refine W.condF (congrArg Value.bool (decide_eq_false hc46)) ?_
      refine W.exit (thenR_exit (iterR_exit (blockR_here ?_)))
      exact ⟨(hx42 _ hR).symm, (EnvHas.cons rfl EnvHas.nil), h43⟩
  ·
    rintro ev60 wl60 ⟨hy60, he60, h60⟩
    obtain ⟨ev60, rfl⟩ := he60.open
    replace hR := hR042  hy60
    refine hK7 _ _ ?_; clear hK7
    refine W.seq_k fun K61 hK61 => ?_
    refine W.seq_k fun K62 hK62 => ?_
    refine W.regionT [(0, true)] (by kernel_rfl) ?_
    refine Plan.assign_int rfl rfl ?_
    refine Plan.nil ?_
    refine hK62 _ _ ?_; clear hK62
    obtain ⟨x216, hI216, hR0216⟩ := hR
    refine W.cutN (fun e w => x216 = some () ∧ EnvHas e [] ∧ St B w0 (⟨some bb1, 0, 1, fun _ => .slice abLists2 bLists2.length cbLists2, true⟩ :: ⟨some bb1, 1, 1, fun _ => .slice abWant3 bWant3.length cbWant3, true⟩ :: ⟨some bb1, 2, 1, fun _ => .slice abKeys4 bKeys4.length cbKeys4, true⟩ :: ⟨some bb1, 3, 1, fun _ => .slice abWantK5 bWantK5.length cbWantK5, true⟩ :: L) w) ?_ ?_
    ·
      refine W.block ?_
      refine W.iter hI216 (fun (s216 : Nat) e w => EnvHas e [(0, .pointer (some ⟨bb1, 0, none⟩)), (4, VN s216)] ∧ St B w0 (⟨some bb1, 0, 1, fun _ => .slice abLists2 bLists2.length cbLists2, true⟩ :: ⟨some bb1, 1, 1, fun _ => .slice abWant3 bWant3.length cbWant3, true⟩ :: ⟨some bb1, 2, 1, fun _ => .slice abKeys4 bKeys4.length cbKeys4, true⟩ :: ⟨some bb1, 3, 1, fun _ => .slice abWantK5 bWantK5.length cbWantK5, true⟩ :: L) w) ⟨(EnvHas.cons rfl (EnvHas.cons rfl EnvHas.nil)), h60⟩ ?_
      rintro i_215 o216 hR hx216 ev217 wl217 ⟨he217, h217⟩
      obtain ⟨ev217, rfl⟩ := he217.open
      unfold lethelaw03_Book_Holds_l1 at hR
      refine W.seq_k fun K218 hK218 => ?_
      refine W.seq_k fun K219 hK219 => ?_
      refine W.regionT [(0, true), (1, true), (2, true), (3, true), (4, true), (5, true), (6, true)] (by kernel_rfl) ?_
      refine Plan.move_int rfl rfl ?_
      refine Plan.move_ptr rfl rfl ?_
      refine Plan.nilCheck rfl rfl ?_
      refine Plan.fieldAddr 2 FLaw03.fld78_2 rfl rfl ?_
      refine Plan.load0 h217 2 rfl rfl rfl (by omega) FLaw03.sc76 ?_
      refine Plan.len FLaw03.isl76 rfl rfl ?_
      refine Plan.cmpP (a := (((i_215 : Nat) : Int) : Int)) (b := (((bKeys4.length : Nat) : Int) : Int)) (p := i_215 < bKeys4.length) rfl rfl rfl rfl icmp_ltN ?_
      refine Plan.nil ?_
      refine hK219 _ _ ?_; clear hK219
      by_cases hc220 : i_215 < bKeys4.length
      ·
        replace hR := ifT hR hc220
        refine W.condT (congrArg Value.bool (decide_eq_true hc220)) ?_
        refine W.skip ?_
        refine hK218 _ _ ?_; clear hK218
        refine W.seq_k fun K221 hK221 => ?_
        refine W.block ?_
        refine W.seq_k fun K222 hK222 => ?_
        refine W.seq_k fun K223 hK223 => ?_
        refine W.regionD FLaw03.mixed [(0, true), (1, true), (2, true), (3, true), (4, true), (5, true), (6, true), (7, true), (8, true), (9, true), (10, true), (11, true), (12, true), (13, true), (14, true), (15, true), (16, true)] (by kernel_rfl) ?_
        have h224 := h217.drew
        refine Plan.move_ptr rfl rfl ?_
        refine Plan.nilCheck rfl rfl ?_
        refine Plan.fieldAddr 2 FLaw03.fld78_2 rfl rfl ?_
        refine Plan.load0 h224 2 rfl rfl rfl (by omega) FLaw03.sc76 ?_
        refine Plan.move_int rfl rfl ?_
        obtain ⟨hc225, hR⟩ := hR
        refine Plan.idxLVS (D := (D62.at L)) (j := i_215) h224 (hbKeys4.app [_, _, _, _]) FLaw03.sl76 rfl rfl rfl hc225 ?_
        refine Plan.loadLV1 (D := (D62.at L)) (X := bKeys4) (j := i_215) h224 ([] : List (Nat → BitVec 8)) (fun b _ => .slice b.1 b.2.1 b.2.2) (hbKeys4.app [_, _, _, _]) rfl rfl hc225 rfl (fun _ _ => rfl) FLaw03.sc62 fun b226 r226 hs226 hr226 => ?_
        obtain ⟨i226_0, hv226_0⟩ := hs226
        obtain ⟨ab226, nb226, cb226⟩ := b226
        obtain rfl : ((bKeys4.getD i_215 ([] : List (Nat → BitVec 8)))).length = nb226 := hv226_0.hl
        refine Plan.len FLaw03.isl62 rfl rfl ?_
        refine Plan.move_ptr rfl rfl ?_
        refine Plan.nilCheck rfl rfl ?_
        refine Plan.fieldAddr 3 FLaw03.fld78_3 rfl rfl ?_
        refine Plan.load0 h224 3 rfl rfl rfl (by omega) FLaw03.sc76 ?_
        refine Plan.move_int rfl rfl ?_
        obtain ⟨hc227, hR⟩ := hR
        refine Plan.idxLVS (D := (D62.at L)) (j := i_215) h224 (hbWantK5.app [_, _, _, _]) FLaw03.sl76 rfl rfl rfl hc227 ?_
        refine Plan.loadLV1 (D := (D62.at L)) (X := bWantK5) (j := i_215) h224 ([] : List (Nat → BitVec 8)) (fun b _ => .slice b.1 b.2.1 b.2.2) (hbWantK5.app [_, _, _, _]) rfl rfl hc227 rfl (fun _ _ => rfl) FLaw03.sc62 fun b228 r228 hs228 hr228 => ?_
        obtain ⟨i228_0, hv228_0⟩ := hs228
        obtain ⟨ab228, nb228, cb228⟩ := b228
        obtain rfl : ((bWantK5.getD i_215 ([] : List (Nat → BitVec 8)))).length = nb228 := hv228_0.hl
        refine Plan.len FLaw03.isl62 rfl rfl ?_
        refine Plan.cmpP (a := (((((bKeys4.getD i_215 ([] : List (Nat → BitVec 8)))).length : Nat) : Int) : Int)) (b := (((((bWantK5.getD i_215 ([] : List (Nat → BitVec 8)))).length : Nat) : Int) : Int)) (p := ((bKeys4.getD i_215 ([] : List (Nat → BitVec 8)))).length ≠ ((bWantK5.getD i_215 ([] : List (Nat → BitVec 8)))).length) rfl rfl rfl rfl icmp_neN ?_
        refine Plan.nil ?_
        refine hK223 _ _ ?_; clear hK223
        by_cases hc229 : ((bKeys4.getD i_215 ([] : List (Nat → BitVec 8)))).length ≠ ((bWantK5.getD i_215 ([] : List (Nat → BitVec 8)))).length
        ·
          replace hR := ifT hR hc229
          refine W.condT (congrArg Value.bool (decide_eq_true hc229)) ?_
          refine W.seq_k fun K230 hK230 => ?_
          refine W.regionT [(0, true)] (by kernel_rfl) ?_
          refine Plan.assign_bool rfl rfl ?_
          refine Plan.nil ?_
          refine hK230 _ _ ?_; clear hK230
          refine W.ret (thenR_ret (blockR_ret (thenR_ret (iterR_ret (blockR_ret (thenR_ret (thenR_ret (finR_ret ?_))))))))
          replace hR := hR.2
          subst r
          refine RetOk.mk (.tmp_bool rfl .nil) ?_
          exact ⟨rfl, h224⟩
        ·
          replace hR := ifF hR hc229
          refine W.condF (congrArg Value.bool (decide_eq_false hc229)) ?_
          refine W.skip ?_
          refine hK222 _ _ ?_; clear hK222
          refine W.seq_k fun K231 hK231 => ?_
          refine W.regionT [(0, true)] (by kernel_rfl) ?_
          refine Plan.assign_int rfl rfl ?_
          refine Plan.nil ?_
          refine hK231 _ _ ?_; clear hK231
          obtain ⟨x271, hI271, hR0271⟩ := hR
          refine W.cutN (fun e w => x271 = some () ∧ EnvHas e [(0, .pointer (some ⟨bb1, 0, none⟩)), (4, VN i_215)] ∧ St B w0 (⟨some bb1, 0, 1, fun _ => .slice abLists2 bLists2.length cbLists2, true⟩ :: ⟨some bb1, 1, 1, fun _ => .slice abWant3 bWant3.length cbWant3, true⟩ :: ⟨some bb1, 2, 1, fun _ => .slice abKeys4 bKeys4.length cbKeys4, true⟩ :: ⟨some bb1, 3, 1, fun _ => .slice abWantK5 bWantK5.length cbWantK5, true⟩ :: L) w) ?_ ?_
          ·
            refine W.block ?_
            refine W.iter hI271 (fun (s271 : Nat) e w => EnvHas e [(0, .pointer (some ⟨bb1, 0, none⟩)), (4, VN i_215), (5, VN s271)] ∧ St B w0 (⟨some bb1, 0, 1, fun _ => .slice abLists2 bLists2.length cbLists2, true⟩ :: ⟨some bb1, 1, 1, fun _ => .slice abWant3 bWant3.length cbWant3, true⟩ :: ⟨some bb1, 2, 1, fun _ => .slice abKeys4 bKeys4.length cbKeys4, true⟩ :: ⟨some bb1, 3, 1, fun _ => .slice abWantK5 bWantK5.length cbWantK5, true⟩ :: L) w) ⟨(EnvHas.cons rfl (EnvHas.cons rfl (EnvHas.cons rfl EnvHas.nil))), h224⟩ ?_
            rintro k270 o271 hR hx271 ev272 wl272 ⟨he272, h272⟩
            obtain ⟨ev272, rfl⟩ := he272.open
            unfold lethelaw03_Book_Holds_l2 at hR
            refine W.seq_k fun K273 hK273 => ?_
            refine W.seq_k fun K274 hK274 => ?_
            refine W.regionT [(0, true), (1, true), (2, true), (3, true), (4, true), (5, true), (6, true), (7, true), (8, true), (9, true)] (by kernel_rfl) ?_
            refine Plan.move_int rfl rfl ?_
            refine Plan.move_ptr rfl rfl ?_
            refine Plan.nilCheck rfl rfl ?_
            refine Plan.fieldAddr 2 FLaw03.fld78_2 rfl rfl ?_
            refine Plan.load0 h272 2 rfl rfl rfl (by omega) FLaw03.sc76 ?_
            refine Plan.move_int rfl rfl ?_
            obtain ⟨hc275, hR⟩ := hR
            refine Plan.idxLVS (D := (D62.at L)) (j := i_215) h272 (hbKeys4.app [_, _, _, _]) FLaw03.sl76 rfl rfl rfl hc275 ?_
            refine Plan.loadLV1 (D := (D62.at L)) (X := bKeys4) (j := i_215) h272 ([] : List (Nat → BitVec 8)) (fun b _ => .slice b.1 b.2.1 b.2.2) (hbKeys4.app [_, _, _, _]) rfl rfl hc275 rfl (fun _ _ => rfl) FLaw03.sc62 fun b276 r276 hs276 hr276 => ?_
            obtain ⟨i276_0, hv276_0⟩ := hs276
            obtain ⟨ab276, nb276, cb276⟩ := b276
            obtain rfl : ((bKeys4.getD i_215 ([] : List (Nat → BitVec 8)))).length = nb276 := hv276_0.hl
            refine Plan.len FLaw03.isl62 rfl rfl ?_
            refine Plan.cmpP (a := (((k270 : Nat) : Int) : Int)) (b := (((((bKeys4.getD i_215 ([] : List (Nat → BitVec 8)))).length : Nat) : Int) : Int)) (p := k270 < ((bKeys4.getD i_215 ([] : List (Nat → BitVec 8)))).length) rfl rfl rfl rfl icmp_ltN ?_
            refine Plan.nil ?_
            refine hK274 _ _ ?_; clear hK274
            by_cases hc277 : k270 < ((bKeys4.getD i_215 ([] : List (Nat → BitVec 8)))).length
            ·
              replace hR := ifT hR hc277
              refine W.condT (congrArg Value.bool (decide_eq_true hc277)) ?_
              refine W.skip ?_
              refine hK273 _ _ ?_; clear hK273
              refine W.seq_k fun K278 hK278 => ?_
              refine W.block ?_
              refine W.seq_k fun K279 hK279 => ?_
              refine W.regionD FLaw03.mixed [(0, true), (1, true), (2, true), (3, true), (4, true), (5, true), (6, true), (7, true), (8, true), (9, true), (10, true), (11, true), (12, true), (13, true), (14, true), (15, true), (16, true), (17, true), (18, true), (19, true), (20, true)] (by kernel_rfl) ?_
              have h280 := h272.drew
              refine Plan.move_ptr rfl rfl ?_
              refine Plan.nilCheck rfl rfl ?_
              refine Plan.fieldAddr 2 FLaw03.fld78_2 rfl rfl ?_
              refine Plan.load0 h280 2 rfl rfl rfl (by omega) FLaw03.sc76 ?_
              refine Plan.move_int rfl rfl ?_
              obtain ⟨hc281, hR⟩ := hR
              refine Plan.idxLVS (D := (D62.at L)) (j := i_215) h280 (hbKeys4.app [_, _, _, _]) FLaw03.sl76 rfl rfl rfl hc281 ?_
              refine Plan.loadLV1 (D := (D62.at L)) (X := bKeys4) (j := i_215) h280 ([] : List (Nat → BitVec 8)) (fun b _ => .slice b.1 b.2.1 b.2.2) (hbKeys4.app [_, _, _, _]) rfl rfl hc281 rfl (fun _ _ => rfl) FLaw03.sc62 fun b282 r282 hs282 hr282 => ?_
              obtain ⟨i282_0, hv282_0⟩ := hs282
              obtain ⟨ab282, nb282, cb282⟩ := b282
              obtain rfl : ((bKeys4.getD i_215 ([] : List (Nat → BitVec 8)))).length = nb282 := hv282_0.hl
              refine Plan.move_int rfl rfl ?_
              obtain ⟨hc283, hR⟩ := hR
              refine Plan.idxLVS (D := D61) (j := k270) h280 (hv282_0.app [_, _, _, _]) FLaw03.sl62 rfl rfl rfl hc283 ?_
              refine Plan.loadLV (D := D61) (X := ((bKeys4.getD i_215 ([] : List (Nat → BitVec 8))))) (j := k270) (sz := 32) h280 (fun _ => 0#8) (hv282_0.app [_, _, _, _]) rfl rfl hc283 rfl FLaw03.agg61 fun b284 r284 hs284 hr284 => ?_
              refine Plan.move_ptr rfl rfl ?_
              refine Plan.nilCheck rfl rfl ?_
              refine Plan.fieldAddr 3 FLaw03.fld78_3 rfl rfl ?_
              refine Plan.load0 h280 3 rfl rfl rfl (by omega) FLaw03.sc76 ?_
              refine Plan.move_int rfl rfl ?_
              obtain ⟨hc285, hR⟩ := hR
              refine Plan.idxLVS (D := (D62.at L)) (j := i_215) h280 (hbWantK5.app [_, _, _, _]) FLaw03.sl76 rfl rfl rfl hc285 ?_
              refine Plan.loadLV1 (D := (D62.at L)) (X := bWantK5) (j := i_215) h280 ([] : List (Nat → BitVec 8)) (fun b _ => .slice b.1 b.2.1 b.2.2) (hbWantK5.app [_, _, _, _]) rfl rfl hc285 rfl (fun _ _ => rfl) FLaw03.sc62 fun b286 r286 hs286 hr286 => ?_
              obtain ⟨i286_0, hv286_0⟩ := hs286
              obtain ⟨ab286, nb286, cb286⟩ := b286
              obtain rfl : ((bWantK5.getD i_215 ([] : List (Nat → BitVec 8)))).length = nb286 := hv286_0.hl
              refine Plan.move_int rfl rfl ?_
              obtain ⟨hc287, hR⟩ := hR
              refine Plan.idxLVS (D := D61) (j := k270) h280 (hv286_0.app [_, _, _, _]) FLaw03.sl62 rfl rfl rfl hc287 ?_
              refine Plan.loadLV (D := D61) (X := ((bWantK5.getD i_215 ([] : List (Nat → BitVec 8))))) (j := k270) (sz := 32) h280 (fun _ => 0#8) (hv286_0.app [_, _, _, _]) rfl rfl hc287 rfl FLaw03.agg61 fun b288 r288 hs288 hr288 => ?_
              refine Plan.neArrV (b := (eqB 32 (((bKeys4.getD i_215 ([] : List (Nat → BitVec 8)))).getD k270 (fun _ => 0#8)) (((bWantK5.getD i_215 ([] : List (Nat → BitVec 8)))).getD k270 (fun _ => 0#8)))) FLaw03.arrI61 rfl rfl rfl rfl ?_
              refine Plan.nil ?_
              refine hK279 _ _ ?_; clear hK279
              by_cases hc289 : (eqB 32 (((bKeys4.getD i_215 ([] : List (Nat → BitVec 8)))).getD k270 (fun _ => 0#8)) (((bWantK5.getD i_215 ([] : List (Nat → BitVec 8)))).getD k270 (fun _ => 0#8))) = true
              ·
                replace hR := ifT hR hc289
                refine W.condF (congrArg Value.bool (congrArg Bool.not hc289)) ?_
                refine W.skip ?_
                refine blockR_norm ?_
                refine hK278 _ _ ?_; clear hK278
                refine W.regionT [(0, true), (1, true), (2, true)] (by kernel_rfl) ?_
                refine Plan.move_int rfl rfl ?_
                obtain ⟨hc290, hR⟩ := hR
                refine Plan.addN (a := k270) (b := 1) rfl rfl rfl (by omega) ?_
                refine Plan.assign_int rfl rfl ?_
                refine Plan.nil ?_
                exact iterR_norm ⟨_, hR, (EnvHas.cons rfl (EnvHas.cons rfl (EnvHas.cons rfl EnvHas.nil))), h280⟩
              ·
                replace hR := ifF hR hc289
                refine W.condT (congrArg Value.bool (congrArg Bool.not (Bool.eq_false_iff.2 hc289))) ?_
                refine W.seq_k fun K291 hK291 => ?_
                refine W.regionT [(0, true)] (by kernel_rfl) ?_
                refine Plan.assign_bool rfl rfl ?_
                refine Plan.nil ?_
                refine hK291 _ _ ?_; clear hK291
                refine W.ret (blockR_ret (thenR_ret (iterR_ret (blockR_ret (thenR_ret (blockR_ret (thenR_ret (iterR_ret (blockR_ret (thenR_ret (thenR_ret (finR_ret ?_))))))))))))
                replace hR := hR.2
                replace hR := hR.2
                subst r
                refine RetOk.mk (.tmp_bool rfl .nil) ?_
                exact ⟨rfl, h280⟩
            ·
              replace hR := ifF hR hc277
              refine W.condF (congrArg Value.bool (decide_eq_false hc277)) ?_
              refine W.exit (thenR_exit (iterR_exit (blockR_here ?_)))
              exact ⟨(hx271 _ hR).symm, (EnvHas.cons rfl (EnvHas.cons rfl EnvHas.nil)), h272⟩
          ·
            rintro ev292 wl292 ⟨hy292, he292, h292⟩
            obtain ⟨ev292, rfl⟩ := he292.open
            replace hR := hR0271  hy292
            refine blockR_norm ?_
            refine hK221 _ _ ?_; clear hK221
            refine W.regionT [(0, true), (1, true), (2, true)] (by kernel_rfl) ?_
            refine Plan.move_int rfl rfl ?_
            obtain ⟨hc293, hR⟩ := hR
            refine Plan.addN (a := i_215) (b := 1) rfl rfl rfl (by omega) ?_
            refine Plan.assign_int rfl rfl ?_
            refine Plan.nil ?_
            exact iterR_norm ⟨_, hR, (EnvHas.cons rfl (EnvHas.cons rfl EnvHas.nil)), h292⟩
      ·
        replace hR := ifF hR hc220
        refine W.condF (congrArg Value.bool (decide_eq_false hc220)) ?_
        refine W.exit (thenR_exit (iterR_exit (blockR_here ?_)))
        exact ⟨(hx216 _ hR).symm, EnvHas.nil, h217⟩
    ·
      rintro ev294 wl294 ⟨hy294, he294, h294⟩
      obtain ⟨ev294, rfl⟩ := he294.open
      replace hR := hR0216  hy294
      refine hK61 _ _ ?_; clear hK61
      refine W.seq_k fun K295 hK295 => ?_
      refine W.regionT [(0, true)] (by kernel_rfl) ?_
      refine Plan.assign_bool rfl rfl ?_
      refine Plan.nil ?_
      refine hK295 _ _ ?_; clear hK295
      refine W.ret (finR_ret ?_)
      subst r
      refine RetOk.mk (.tmp_bool rfl .nil) ?_
      exact ⟨rfl, h294⟩

end Go.Proofs.YtjdgbahjpdopbaaDoor
