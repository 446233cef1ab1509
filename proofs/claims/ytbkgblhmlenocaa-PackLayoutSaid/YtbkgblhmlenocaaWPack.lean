/-
  WALKS of the package's functions, printed by this session's own program (auto.py).
-/
import Derived.Test.YtbkgblhmlenocaaProg
import Derived.Test.YtbkgblhmlenocaaEb
import Derived.Test.YtbkgblhmlenocaaRPack
import Derived.Test.YtbkgblhmlenocaaEls
import Derived.Test.YtbkgblhmlenocaaWBytes
import Derived.Test.YtbkgblhmlenocaaWCmp
import Derived.Test.YtbkgblhmlenocaaWWire
namespace Go.Proofs.Ytbkgblhmlenocaa
set_option linter.unusedSimpArgs false
set_option linter.unusedVariables false
set_option linter.unusedSectionVars false
open Go Go.LW
theorem FPack.isl22 : ∃ el, Try.prog.underlying 22 = some (.slice el) := ⟨25, by kernel_rfl⟩
theorem FPack.sl22 : slB Try.prog 22 3 = true := by kernel_rfl
theorem FPack.agg25 : aggT Try.prog 25 3 = true := by kernel_rfl
theorem FPack.z25 : zeroIs Try.prog 25 [(1, fun _ => .int .i64 0), (1, fun _ => .slice none 0 0), (1, fun _ => .slice none 0 0)] := zeroIs_agg (by kernel_rfl)
theorem FPack.fld25_0 : fieldB Try.prog 25 0 0 = true := by kernel_rfl
theorem FPack.sc3 : scalarT Try.prog 3 = true := by kernel_rfl
theorem FPack.sz3 : szT Try.prog 3 1 = true := by kernel_rfl
theorem FPack.fld25_1 : fieldB Try.prog 25 1 1 = true := by kernel_rfl
theorem FPack.sc23 : scalarT Try.prog 23 = true := by kernel_rfl
theorem FPack.isl23 : ∃ el, Try.prog.underlying 23 = some (.slice el) := ⟨5, by kernel_rfl⟩
theorem FPack.sz23 : szT Try.prog 23 1 = true := by kernel_rfl
theorem FPack.fld25_2 : fieldB Try.prog 25 2 2 = true := by kernel_rfl
theorem FPack.sz25 : szT Try.prog 25 3 = true := by kernel_rfl
theorem FPack.zv25 : (Try.prog.info? 25).bind (·.zero) = some (AG [(1, fun _ => .int .i64 0), (1, fun _ => .slice none 0 0), (1, fun _ => .slice none 0 0)]) := by kernel_rfl
theorem FPack.slu22 : Try.prog.underlying 22 = some (.slice 25) := by kernel_rfl
theorem FPack.el22 : elD Try.prog 22 = some (3, 56, some (AG [(1, fun _ => .int .i64 0), (1, fun _ => .slice none 0 0), (1, fun _ => .slice none 0 0)])) := by kernel_rfl
theorem FPack.mixed : Try.prog.follows .mixedOrders = true := by kernel_rfl
theorem FPack.call57 : callB Try.prog 57 = true := by kernel_rfl
theorem FPack.call58 : callB Try.prog 58 = true := by kernel_rfl
theorem FPack.zv3 : (Try.prog.info? 3).bind (·.zero) = some (.int .i64 0) := by kernel_rfl
theorem FPack.slu43 : Try.prog.underlying 43 = some (.slice 3) := by kernel_rfl
theorem FPack.isl43 : ∃ el, Try.prog.underlying 43 = some (.slice el) := ⟨3, by kernel_rfl⟩
theorem FPack.sl43 : slB Try.prog 43 1 = true := by kernel_rfl
theorem FPack.call56 : callB Try.prog 56 = true := by kernel_rfl
theorem FPack.call16 : callB Try.prog 16 = true := by kernel_rfl
theorem FPack.call59 : callB Try.prog 59 = true := by kernel_rfl
theorem FPack.call85 : callB Try.prog 85 = true := by kernel_rfl
theorem FPack.call60 : callB Try.prog 60 = true := by kernel_rfl
theorem FPack.u121 : Try.prog.underlying 121 = some (.int .u64) := by kernel_rfl
theorem FPack.some3 : (Try.prog.underlying 3).isSome = true := by kernel_rfl
theorem FPack.u3 : Try.prog.underlying 3 = some (.int .i64) := by kernel_rfl
theorem FPack.some121 : (Try.prog.underlying 121).isSome = true := by kernel_rfl
theorem FPack.call87 : callB Try.prog 87 = true := by kernel_rfl
theorem FPack.call86 : callB Try.prog 86 = true := by kernel_rfl
theorem FPack.call61 : callB Try.prog 61 = true := by kernel_rfl
theorem FPack.zv23 : (Try.prog.info? 23).bind (·.zero) = some (.slice none 0 0) := by kernel_rfl
theorem FPack.slu61 : Try.prog.underlying 61 = some (.slice 23) := by kernel_rfl
theorem FPack.call88 : callB Try.prog 88 = true := by kernel_rfl
theorem FPack.pl25 : placesB Try.prog 25 [(0, 1), (1, 1), (2, 1)] = true := by kernel_rfl
theorem FPack.call63 : callB Try.prog 63 = true := by kernel_rfl
theorem FPack.call62 : callB Try.prog 62 = true := by kernel_rfl
theorem FPack.call26 : callB Try.prog 26 = true := by kernel_rfl
theorem FPack.el43 : elD Try.prog 43 = some (1, 8, some (.int .i64 0)) := by kernel_rfl

set_option maxRecDepth 8000 in
set_option maxHeartbeats 1000000 in
theorem pack_Compare_ok {B : Nat} {w0 w : World} {L : List Rg} {aTable1 : Int} {aKey2 : List Byte} {aaKey2 : Option Addr} {naKey2 caKey2 iaKey2 : Nat} (haKey2 : Bx L iaKey2 aaKey2 naKey2 caKey2 aKey2) {aValue3 : List Byte} {aaValue3 : Option Addr} {naValue3 caValue3 iaValue3 : Nat} (haValue3 : Bx L iaValue3 aaValue3 naValue3 caValue3 aValue3) {bTable4 : Int} {bKey5 : List Byte} {abKey5 : Option Addr} {nbKey5 cbKey5 ibKey5 : Nat} (hbKey5 : Bx L ibKey5 abKey5 nbKey5 cbKey5 bKey5) {bValue6 : List Byte} {abValue6 : Option Addr} {nbValue6 cbValue6 ibValue6 : Nat} (hbValue6 : Bx L ibValue6 abValue6 nbValue6 cbValue6 bValue6) {r : Int} (hR : pack_Compare aTable1 aKey2 aValue3 bTable4 bKey5 bValue6 r) (HST : St B w0 (L) w) :
    Calls Try.prog 16 #[AG [(1, fun _ => .int .i64 aTable1), (1, fun _ => .slice aaKey2 naKey2 caKey2), (1, fun _ => .slice aaValue3 naValue3 caValue3)], AG [(1, fun _ => .int .i64 bTable4), (1, fun _ => .slice abKey5 nbKey5 cbKey5), (1, fun _ => .slice abValue6 nbValue6 cbValue6)]] w fun e w' => e = .returned (.int .i64 r) ∧ St B w0 (L) w' := by
  refine W.enter 17 Try.func16 rfl rfl rfl ?_
  unfold pack_Compare at hR
  have eaKey2 := haKey2.hl; subst eaKey2
  have eaValue3 := haValue3.hl; subst eaValue3
  have ebKey5 := hbKey5.hl; subst ebKey5
  have ebValue6 := hbValue6.hl; subst ebValue6
  refine W.seq_k fun K7 hK7 => ?_
  refine W.regionT [(0, false), (1, false), (2, true)] (by kernel_rfl) ?_
  refine Plan.boxA HST rfl rfl PIn.nil fun b8 w8 hb8 h8 => ?_
  simp only [rngs, Nat.zero_add, Nat.reduceAdd, List.cons_append, List.nil_append] at h8
  refine Plan.boxA h8 rfl rfl PIn.nil fun b9 w9 hb9 h9 => ?_
  simp only [rngs, Nat.zero_add, Nat.reduceAdd, List.cons_append, List.nil_append] at h9
  refine Plan.assign_int rfl rfl ?_
  refine Plan.nil ?_
  refine hK7 _ _ ?_; clear hK7
  refine W.seq_k fun K10 hK10 => ?_
  refine W.regionD FPack.mixed [(0, true), (1, true), (2, true), (3, true), (5, true), (6, true), (7, true), (8, true), (4, false), (9, false), (10, false), (11, false), (12, true)] (by kernel_rfl) ?_
  have h11 := h9.drew
  refine Plan.fieldAddr0 FPack.fld25_0 rfl rfl ?_
  refine Plan.load0 h11 3 rfl rfl rfl (by omega) FPack.sc3 ?_
  refine Plan.fieldAddr0 FPack.fld25_0 rfl rfl ?_
  refine Plan.load0 h11 0 rfl rfl rfl (by omega) FPack.sc3 ?_
  refine Plan.fieldAddr 1 FPack.fld25_1 rfl rfl ?_
  refine Plan.load0 h11 4 rfl rfl rfl (by omega) FPack.sc23 ?_
  refine Plan.fieldAddr 1 FPack.fld25_1 rfl rfl ?_
  refine Plan.load0 h11 1 rfl rfl rfl (by omega) FPack.sc23 ?_
  obtain ⟨x_13, hr12, hR⟩ := hR
  refine Plan.call (vs := [.int .i64 aTable1, .int .i64 bTable4]) rfl FPack.call57 rfl (cmp_Compare_int_ok  hr12 h11) ?_
  rintro _ w14 ⟨rfl, h14⟩
  refine ⟨_, rfl, .inl ⟨PIn.keep (PIn.cons 1 rfl (PIn.cons 4 rfl (PIn.cons 0 rfl (PIn.cons 3 rfl PIn.nil)))) h14, ?_⟩⟩
  obtain ⟨x_16, hr15, hR⟩ := hR
  refine Plan.call (vs := [.slice aaKey2 aKey2.length caKey2, .slice abKey5 bKey5.length cbKey5]) rfl FPack.call58 rfl (bytes_Compare_ok (haKey2.app [_, _, _, _, _, _]) (hbKey5.app [_, _, _, _, _, _]) hr15 h14) ?_
  rintro _ w17 ⟨rfl, h17⟩
  refine ⟨_, rfl, .inl ⟨PIn.keep (PIn.cons 1 rfl (PIn.cons 4 rfl (PIn.cons 0 rfl (PIn.cons 3 rfl PIn.nil)))) h17, ?_⟩⟩
  refine Plan.buildLO (D := D3) (sz := 1) h17 [((), x_13), ((), x_16)] FPack.slu43 FPack.sz3 FPack.zv3 (by decide) (by decide) rfl rfl rfl rfl (fun _ _ => trivial) (EffO.keep (PIn.cons 1 rfl (PIn.cons 4 rfl (PIn.cons 0 rfl (PIn.cons 3 rfl PIn.nil))))) fun b19 w19 F19 hb19 ho19 h19 => ?_
  replace ho19 : LO D3 [] (some ⟨b19, 0, none⟩) (some b19) ([x_13, x_16] : List Int).length 2 F19 ([x_13, x_16] : List Int) := ho19.re (fun _ _ h => h)
  obtain ⟨x_21, hr20, hR⟩ := hR
  refine Plan.call (vs := [.slice (some ⟨b19, 0, none⟩) (([x_13, x_16] : List Int).length) 2]) rfl FPack.call56 rfl (cmp_Or_int_ok (by exact (LO.lvf D3_flat ho19 0 rfl)) hr20 h19) ?_
  rintro _ w22 ⟨rfl, h22⟩
  refine ⟨_, rfl, .inl ⟨PIn.keep (PIn.cons 2 rfl (PIn.cons 5 rfl (PIn.cons 1 rfl (PIn.cons 4 rfl PIn.nil)))) h22, ?_⟩⟩
  refine Plan.assign_int rfl rfl ?_
  refine Plan.nil ?_
  refine hK10 _ _ ?_; clear hK10
  refine W.ret (finR_ret ?_)
  have h23 := St.pickT (C := [_, _, _, _, _, _, _]) h22 [] (by decide)
  simp only [pick, List.filterMap_cons, List.filterMap_nil, List.getElem?_cons_zero, List.getElem?_cons_succ, List.cons_append, List.nil_append] at h23
  subst r
  refine RetOk.mk (.tmp_int rfl .nil) ?_
  exact ⟨rfl, h23⟩


set_option maxRecDepth 8000 in
set_option maxHeartbeats 1000000 in
theorem pack_Check_ok {B : Nat} {w0 w : World} {L : List Rg} {rTable1 : Int} {rKey2 : List Byte} {arKey2 : Option Addr} {nrKey2 crKey2 irKey2 : Nat} (hrKey2 : Bx L irKey2 arKey2 nrKey2 crKey2 rKey2) {rValue3 : List Byte} {arValue3 : Option Addr} {nrValue3 crValue3 irValue3 : Nat} (hrValue3 : Bx L irValue3 arValue3 nrValue3 crValue3 rValue3) {r : Nat} (hR : pack_Check rTable1 rKey2 rValue3 r) (HST : St B w0 (L) w) :
    Calls Try.prog 59 #[AG [(1, fun _ => .int .i64 rTable1), (1, fun _ => .slice arKey2 nrKey2 crKey2), (1, fun _ => .slice arValue3 nrValue3 crValue3)]] w fun e w' => e = .returned (VN r) ∧ St B w0 (L) w' := by
  refine W.enter 29 Try.func59 rfl rfl rfl ?_
  unfold pack_Check at hR
  have erKey2 := hrKey2.hl; subst erKey2
  have erValue3 := hrValue3.hl; subst erValue3
  refine W.seq_k fun K4 hK4 => ?_
  refine W.regionT [(0, false), (1, true)] (by kernel_rfl) ?_
  refine Plan.boxA HST rfl rfl PIn.nil fun b5 w5 hb5 h5 => ?_
  simp only [rngs, Nat.zero_add, Nat.reduceAdd, List.cons_append, List.nil_append] at h5
  refine Plan.assign_int rfl rfl ?_
  refine Plan.nil ?_
  refine hK4 _ _ ?_; clear hK4
  refine W.seq_k fun K6 hK6 => ?_
  refine W.seq_k fun K7 hK7 => ?_
  obtain ⟨t12, hX13, hR013⟩ := hR
  refine W.cutN (fun e w => ∃ y_t12 : Bool, (t12 = y_t12) ∧ EnvHas e [(28, .bool y_t12)] ∧ St B w0 (L) w) ?_ ?_
  ·
    replace hR := hX13
    refine W.regionT [(0, true), (1, true), (2, true), (3, true), (4, true), (5, true), (6, true), (7, true), (8, true), (9, true), (10, true), (11, true), (12, true), (13, true), (14, true), (15, true), (16, true), (17, true), (18, true), (19, true), (20, true), (21, true), (22, true), (23, true), (24, true), (25, true)] (by kernel_rfl) ?_
    refine Plan.fieldAddr0 FPack.fld25_0 rfl rfl ?_
    refine Plan.load0 h5 0 rfl rfl rfl (by omega) FPack.sc3 ?_
    by_cases hc14 : rTable1 < 0
    ·
      replace hR := ifT hR hc14
      refine Plan.cmpV (a := (rTable1 : Int)) (b := (0 : Int)) (p := rTable1 < 0) (v := true) rfl rfl rfl rfl icmp_lt (decide_eq_true hc14) ?_
      refine Plan.move_bool rfl rfl ?_
      refine Plan.passed rfl ?_
      refine Plan.passed rfl ?_
      refine Plan.passed rfl ?_
      refine Plan.pickTb rfl rfl rfl ?_
      refine Plan.move_bool rfl rfl ?_
      refine Plan.passed rfl ?_
      refine Plan.passed rfl ?_
      refine Plan.passed rfl ?_
      refine Plan.passed rfl ?_
      refine Plan.pickTb rfl rfl rfl ?_
      refine Plan.move_bool rfl rfl ?_
      refine Plan.passed rfl ?_
      refine Plan.passed rfl ?_
      refine Plan.passed rfl ?_
      refine Plan.passed rfl ?_
      refine Plan.pickTb rfl rfl rfl ?_
      refine Plan.move_bool rfl rfl ?_
      refine Plan.passed rfl ?_
      refine Plan.passed rfl ?_
      refine Plan.passed rfl ?_
      refine Plan.passed rfl ?_
      refine Plan.pickTb rfl rfl rfl ?_
      refine Plan.nil ?_
      have h15 := St.pickT (C := [_, _, _]) h5 [] (by decide)
      simp only [pick, List.filterMap_cons, List.filterMap_nil, List.getElem?_cons_zero, List.getElem?_cons_succ, List.cons_append, List.nil_append] at h15
      exact ⟨true, hR, (EnvHas.cons rfl EnvHas.nil), h15⟩
    ·
      replace hR := ifF hR hc14
      refine Plan.cmpV (a := (rTable1 : Int)) (b := (0 : Int)) (p := rTable1 < 0) (v := false) rfl rfl rfl rfl icmp_lt (decide_eq_false hc14) ?_
      refine Plan.move_bool rfl rfl ?_
      refine Plan.fieldAddr0 FPack.fld25_0 rfl rfl ?_
      refine Plan.load0 h5 0 rfl rfl rfl (by omega) FPack.sc3 ?_
      by_cases hc16 : 15 < rTable1
      ·
        replace hR := ifT hR hc16
        refine Plan.cmpV (a := (rTable1 : Int)) (b := (15 : Int)) (p := 15 < rTable1) (v := true) rfl rfl rfl rfl icmp_gt (decide_eq_true hc16) ?_
        refine Plan.pickFb rfl rfl rfl ?_
        refine Plan.move_bool rfl rfl ?_
        refine Plan.passed rfl ?_
        refine Plan.passed rfl ?_
        refine Plan.passed rfl ?_
        refine Plan.passed rfl ?_
        refine Plan.pickTb rfl rfl rfl ?_
        refine Plan.move_bool rfl rfl ?_
        refine Plan.passed rfl ?_
        refine Plan.passed rfl ?_
        refine Plan.passed rfl ?_
        refine Plan.passed rfl ?_
        refine Plan.pickTb rfl rfl rfl ?_
        refine Plan.move_bool rfl rfl ?_
        refine Plan.passed rfl ?_
        refine Plan.passed rfl ?_
        refine Plan.passed rfl ?_
        refine Plan.passed rfl ?_
        refine Plan.pickTb rfl rfl rfl ?_
        refine Plan.nil ?_
        have h17 := St.pickT (C := [_, _, _]) h5 [] (by decide)
        simp only [pick, List.filterMap_cons, List.filterMap_nil, List.getElem?_cons_zero, List.getElem?_cons_succ, List.cons_append, List.nil_append] at h17
        exact ⟨true, hR, (EnvHas.cons rfl EnvHas.nil), h17⟩
      ·
        replace hR := ifF hR hc16
        refine Plan.cmpV (a := (rTable1 : Int)) (b := (15 : Int)) (p := 15 < rTable1) (v := false) rfl rfl rfl rfl icmp_gt (decide_eq_false hc16) ?_
        refine Plan.pickFb rfl rfl rfl ?_
        refine Plan.move_bool rfl rfl ?_
        refine Plan.fieldAddr 1 FPack.fld25_1 rfl rfl ?_
        refine Plan.load0 h5 1 rfl rfl rfl (by omega) FPack.sc23 ?_
        refine Plan.len FPack.isl23 rfl rfl ?_
        by_cases hc18 : rKey2.length < 1
        ·
          replace hR := ifT hR hc18
          refine Plan.cmpV (a := (((rKey2.length : Nat) : Int) : Int)) (b := (1 : Int)) (p := rKey2.length < 1) (v := true) rfl rfl rfl rfl icmp_ltN (decide_eq_true hc18) ?_
          refine Plan.pickFb rfl rfl rfl ?_
          refine Plan.move_bool rfl rfl ?_
          refine Plan.passed rfl ?_
          refine Plan.passed rfl ?_
          refine Plan.passed rfl ?_
          refine Plan.passed rfl ?_
          refine Plan.pickTb rfl rfl rfl ?_
          refine Plan.move_bool rfl rfl ?_
          refine Plan.passed rfl ?_
          refine Plan.passed rfl ?_
          refine Plan.passed rfl ?_
          refine Plan.passed rfl ?_
          refine Plan.pickTb rfl rfl rfl ?_
          refine Plan.nil ?_
          have h19 := St.pickT (C := [_, _, _]) h5 [] (by decide)
          simp only [pick, List.filterMap_cons, List.filterMap_nil, List.getElem?_cons_zero, List.getElem?_cons_succ, List.cons_append, List.nil_append] at h19
          exact ⟨true, hR, (EnvHas.cons rfl EnvHas.nil), h19⟩
        ·
          replace hR := ifF hR hc18
          refine Plan.cmpV (a := (((rKey2.length : Nat) : Int) : Int)) (b := (1 : Int)) (p := rKey2.length < 1) (v := false) rfl rfl rfl rfl icmp_ltN (decide_eq_false hc18) ?_
          refine Plan.pickFb rfl rfl rfl ?_
          refine Plan.move_bool rfl rfl ?_
          refine Plan.fieldAddr 1 FPack.fld25_1 rfl rfl ?_
          refine Plan.load0 h5 1 rfl rfl rfl (by omega) FPack.sc23 ?_
          refine Plan.len FPack.isl23 rfl rfl ?_
          by_cases hc20 : 64 < rKey2.length
          ·
            replace hR := ifT hR hc20
            refine Plan.cmpV (a := (((rKey2.length : Nat) : Int) : Int)) (b := (64 : Int)) (p := 64 < rKey2.length) (v := true) rfl rfl rfl rfl icmp_gtN (decide_eq_true hc20) ?_
            refine Plan.pickFb rfl rfl rfl ?_
            refine Plan.move_bool rfl rfl ?_
            refine Plan.passed rfl ?_
            refine Plan.passed rfl ?_
            refine Plan.passed rfl ?_
            refine Plan.passed rfl ?_
            refine Plan.pickTb rfl rfl rfl ?_
            refine Plan.nil ?_
            have h21 := St.pickT (C := [_, _, _]) h5 [] (by decide)
            simp only [pick, List.filterMap_cons, List.filterMap_nil, List.getElem?_cons_zero, List.getElem?_cons_succ, List.cons_append, List.nil_append] at h21
            exact ⟨true, hR, (EnvHas.cons rfl EnvHas.nil), h21⟩
          ·
            replace hR := ifF hR hc20
            refine Plan.cmpV (a := (((rKey2.length : Nat) : Int) : Int)) (b := (64 : Int)) (p := 64 < rKey2.length) (v := false) rfl rfl rfl rfl icmp_gtN (decide_eq_false hc20) ?_
            refine Plan.pickFb rfl rfl rfl ?_
            refine Plan.move_bool rfl rfl ?_
            refine Plan.fieldAddr 2 FPack.fld25_2 rfl rfl ?_
            refine Plan.load0 h5 2 rfl rfl rfl (by omega) FPack.sc23 ?_
            refine Plan.len FPack.isl23 rfl rfl ?_
            refine Plan.cmpP (a := (((rValue3.length : Nat) : Int) : Int)) (b := (900 : Int)) (p := 900 < rValue3.length) rfl rfl rfl rfl icmp_gtN ?_
            refine Plan.pickFb rfl rfl rfl ?_
            refine Plan.nil ?_
            have h22 := St.pickT (C := [_, _, _]) h5 [] (by decide)
            simp only [pick, List.filterMap_cons, List.filterMap_nil, List.getElem?_cons_zero, List.getElem?_cons_succ, List.cons_append, List.nil_append] at h22
            exact ⟨(decide (900 < rValue3.length)), hR, (EnvHas.cons rfl EnvHas.nil), h22⟩
  ·
    rintro ev23 wl23 ⟨y_t12, hy23_0, he23, h23⟩
    subst hy23_0
    obtain ⟨ev23, rfl⟩ := he23.open
    replace hR := hR013
    refine hK7 _ _ ?_; clear hK7
    by_cases hc24 : t12 = true
    ·
      replace hR := ifT hR hc24
      refine W.condT (congrArg Value.bool hc24) ?_
      refine W.seq_k fun K25 hK25 => ?_
      refine W.regionT [(0, true)] (by kernel_rfl) ?_
      refine Plan.assign_int rfl rfl ?_
      refine Plan.nil ?_
      refine hK25 _ _ ?_; clear hK25
      refine W.ret (thenR_ret (finR_ret ?_))
      subst r
      refine RetOk.mk (.tmp_int rfl .nil) ?_
      exact ⟨rfl, h23⟩
    ·
      replace hR := ifF hR hc24
      refine W.condF (congrArg Value.bool (Bool.eq_false_iff.2 hc24)) ?_
      refine W.skip ?_
      refine hK6 _ _ ?_; clear hK6
      refine W.seq_k fun K26 hK26 => ?_
      refine W.regionT [(0, true)] (by kernel_rfl) ?_
      refine Plan.assign_int rfl rfl ?_
      refine Plan.nil ?_
      refine hK26 _ _ ?_; clear hK26
      refine W.ret (finR_ret ?_)
      subst r
      refine RetOk.mk (.tmp_int rfl .nil) ?_
      exact ⟨rfl, h23⟩


set_option maxRecDepth 8000 in
set_option maxHeartbeats 1000000 in
theorem pack_records_ok {B : Nat} {w0 w : World} {L : List Rg} {list1 : List (Int × (List Byte) × (List Byte))} {alist1 : Option Addr} {nlist1 clist1 ilist1 : Nat} (hlist1 : LV (D25.at L) L ilist1 alist1 nlist1 clist1 list1) {r : Nat} (hR : pack_records list1 r) (HST : St B w0 (L) w) :
    Calls Try.prog 85 #[.slice alist1 nlist1 clist1] w fun e w' => e = .returned (VN r) ∧ St B w0 (L) w' := by
  refine W.enter 18 Try.func85 rfl rfl rfl ?_
  unfold pack_records at hR
  have elist1 := hlist1.hl; subst elist1
  refine W.seq_k fun K2 hK2 => ?_
  refine W.regionT [(0, true)] (by kernel_rfl) ?_
  refine Plan.assign_int rfl rfl ?_
  refine Plan.nil ?_
  refine hK2 _ _ ?_; clear hK2
  refine W.seq_k fun K3 hK3 => ?_
  refine W.seq_k fun K4 hK4 => ?_
  refine W.regionT [(0, true), (1, true), (2, true)] (by kernel_rfl) ?_
  refine Plan.move_slice rfl rfl ?_
  refine Plan.len FPack.isl22 rfl rfl ?_
  refine Plan.move_int rfl rfl ?_
  refine Plan.nil ?_
  refine hK4 _ _ ?_; clear hK4
  obtain ⟨x40, hI40, hR040⟩ := hR
  refine W.cutN (fun e w => x40 = some () ∧ EnvHas e [] ∧ St B w0 (L) w) ?_ ?_
  ·
    refine W.block ?_
    refine W.iter hI40 (fun (s40 : Nat) e w => EnvHas e [(6, .slice alist1 list1.length clist1), (7, VN list1.length), (8, VN s40)] ∧ St B w0 (L) w) ⟨(EnvHas.cons rfl (EnvHas.cons rfl (EnvHas.cons rfl EnvHas.nil))), HST⟩ ?_
    rintro t39 o40 hR hx40 ev41 wl41 ⟨he41, h41⟩
    obtain ⟨ev41, rfl⟩ := he41.open
    unfold pack_records_l0 at hR
    refine W.seq_k fun K42 hK42 => ?_
    refine W.regionT [(0, true)] (by kernel_rfl) ?_
    refine Plan.cmpP (a := (((t39 : Nat) : Int) : Int)) (b := (((list1.length : Nat) : Int) : Int)) (p := t39 < list1.length) rfl rfl rfl rfl icmp_ltN ?_
    refine Plan.nil ?_
    refine hK42 _ _ ?_; clear hK42
    refine W.seq_k fun K43 hK43 => ?_
    by_cases hc44 : t39 < list1.length
    ·
      replace hR := ifT hR hc44
      refine W.condT (congrArg Value.bool (decide_eq_true hc44)) ?_
      refine W.skip ?_
      refine hK43 _ _ ?_; clear hK43
      refine W.seq_k fun K45 hK45 => ?_
      refine W.block ?_
      refine W.seq_k fun K46 hK46 => ?_
      refine W.regionT [(0, true), (1, true), (2, false), (3, false)] (by kernel_rfl) ?_
      obtain ⟨hc47, hR⟩ := hR
      refine Plan.idxLVS (D := (D25.at L)) (j := t39) h41 hlist1 FPack.sl22 rfl rfl rfl hc47 ?_
      refine Plan.loadLV (D := (D25.at L)) (X := list1) (j := t39) (sz := 3) h41 ((0 : Int), ([] : List Byte), ([] : List Byte)) hlist1 rfl rfl hc47 rfl FPack.agg25 fun b48 r48 hs48 hr48 => ?_
      obtain ⟨⟨i48_1, hv48_1⟩, ⟨i48_2, hv48_2⟩⟩ := hs48
      refine Plan.alloc h41 rfl FPack.z25 (PIn.cons (ilist1 + 0) hr48 PIn.nil) fun b49 w49 hb49 h49 => ?_
      simp only [rngs, Nat.zero_add, Nat.reduceAdd, List.cons_append, List.nil_append] at h49
      refine Plan.storeP (ps := [(1, fun _ => .int .i64 ((list1.getD t39 ((0 : Int), ([] : List Byte), ([] : List Byte))).1)), (1, fun _ => .slice ((b48.1).1) (((list1.getD t39 ((0 : Int), ([] : List Byte), ([] : List Byte))).2.1).length) ((b48.1).2)), (1, fun _ => .slice ((b48.2).1) (((list1.getD t39 ((0 : Int), ([] : List Byte), ([] : List Byte))).2.2).length) ((b48.2).2))]) h49 rfl rfl rfl (.cons 0 rfl (.cons 1 rfl (.cons 2 rfl .nil))) ⟨fun _ _ => rfl, fun _ _ => rfl, fun _ _ => rfl, trivial⟩ FPack.sz25 (EffO.wait rfl) fun w50 h50 => ?_
      simp only [List.cons_append, List.nil_append, List.set_cons_zero, List.set_cons_succ] at h50
      refine Plan.nil ?_
      refine hK46 _ _ ?_; clear hK46
      refine W.seq_k fun K51 hK51 => ?_
      refine W.regionT [(0, true), (1, false), (2, true)] (by kernel_rfl) ?_
      refine Plan.loadA h50 rfl rfl (.cons 0 rfl (.cons 1 rfl (.cons 2 rfl .nil))) FPack.agg25 ?_
      obtain ⟨x_53, hr52, hR⟩ := hR
      refine Plan.call (vs := [AG [(1, fun _ => .int .i64 ((list1.getD t39 ((0 : Int), ([] : List Byte), ([] : List Byte))).1)), (1, fun _ => .slice ((b48.1).1) (((list1.getD t39 ((0 : Int), ([] : List Byte), ([] : List Byte))).2.1).length) ((b48.1).2)), (1, fun _ => .slice ((b48.2).1) (((list1.getD t39 ((0 : Int), ([] : List Byte), ([] : List Byte))).2.2).length) ((b48.2).2))]]) rfl FPack.call59 rfl (pack_Check_ok (hv48_1.app [_, _, _]) (hv48_2.app [_, _, _]) hr52 h50) ?_
      rintro _ w54 ⟨rfl, h54⟩
      refine ⟨_, rfl, .inr ⟨rfl, ?_⟩⟩
      refine Plan.assign_int rfl rfl ?_
      refine Plan.nil ?_
      refine hK51 _ _ ?_; clear hK51
      refine W.seq_k fun K55 hK55 => ?_
      refine W.regionT [(0, true), (1, true)] (by kernel_rfl) ?_
      refine Plan.move_int rfl rfl ?_
      refine Plan.cmpP (a := (((x_53 : Nat) : Int) : Int)) (b := (0 : Int)) (p := x_53 ≠ 0) rfl rfl rfl rfl icmp_neN ?_
      refine Plan.nil ?_
      refine hK55 _ _ ?_; clear hK55
      by_cases hc56 : x_53 ≠ 0
      ·
        replace hR := ifT hR hc56
        refine W.condT (congrArg Value.bool (decide_eq_true hc56)) ?_
        refine W.seq_k fun K57 hK57 => ?_
        refine W.regionT [(0, true), (1, true)] (by kernel_rfl) ?_
        refine Plan.move_int rfl rfl ?_
        refine Plan.assign_int rfl rfl ?_
        refine Plan.nil ?_
        refine hK57 _ _ ?_; clear hK57
        refine W.ret (blockR_ret (thenR_ret (iterR_ret (blockR_ret (thenR_ret (thenR_ret (finR_ret ?_)))))))
        have h58 := St.pickT (C := [_, _, _]) h54 [] (by decide)
        simp only [pick, List.filterMap_cons, List.filterMap_nil, List.getElem?_cons_zero, List.getElem?_cons_succ, List.cons_append, List.nil_append] at h58
        replace hR := hR.2
        subst r
        refine RetOk.mk (.tmp_int rfl .nil) ?_
        exact ⟨rfl, h58⟩
      ·
        replace hR := ifF hR hc56
        refine W.condF (congrArg Value.bool (decide_eq_false hc56)) ?_
        refine W.skip ?_
        refine blockR_norm ?_
        refine hK45 _ _ ?_; clear hK45
        refine W.regionT [(0, true), (1, true)] (by kernel_rfl) ?_
        obtain ⟨hc59, hR⟩ := hR
        refine Plan.addN (a := t39) (b := 1) rfl rfl rfl (by omega) ?_
        refine Plan.move_int rfl rfl ?_
        refine Plan.nil ?_
        have h60 := St.pickT (C := [_, _, _]) h54 [] (by decide)
        simp only [pick, List.filterMap_cons, List.filterMap_nil, List.getElem?_cons_zero, List.getElem?_cons_succ, List.cons_append, List.nil_append] at h60
        exact iterR_norm ⟨_, hR, (EnvHas.cons rfl (EnvHas.cons rfl (EnvHas.cons rfl EnvHas.nil))), h60⟩
    ·
      replace hR := ifF hR hc44
      refine W.condF (congrArg Value.bool (decide_eq_false hc44)) ?_
      refine W.exit (thenR_exit (iterR_exit (blockR_here ?_)))
      exact ⟨(hx40 _ hR).symm, EnvHas.nil, h41⟩
  ·
    rintro ev61 wl61 ⟨hy61, he61, h61⟩
    obtain ⟨ev61, rfl⟩ := he61.open
    replace hR := hR040  hy61
    refine hK3 _ _ ?_; clear hK3
    refine W.seq_k fun K62 hK62 => ?_
    refine W.regionT [(0, true)] (by kernel_rfl) ?_
    refine Plan.assign_int rfl rfl ?_
    refine Plan.nil ?_
    refine hK62 _ _ ?_; clear hK62
    refine W.ret (finR_ret ?_)
    subst r
    refine RetOk.mk (.tmp_int rfl .nil) ?_
    exact ⟨rfl, h61⟩


set_option maxRecDepth 8000 in
set_option maxHeartbeats 1000000 in
theorem pack_sorted_ok {B : Nat} {w0 w : World} {L : List Rg} {list1 : List (Int × (List Byte) × (List Byte))} {alist1 : Option Addr} {nlist1 clist1 ilist1 : Nat} (hlist1 : LV (D25.at L) L ilist1 alist1 nlist1 clist1 list1) {r : Nat} (hR : pack_sorted list1 r) (HST : St B w0 (L) w) :
    Calls Try.prog 60 #[.slice alist1 nlist1 clist1] w fun e w' => e = .returned (VN r) ∧ St B w0 (L) w' := by
  refine W.enter 27 Try.func60 rfl rfl rfl ?_
  unfold pack_sorted at hR
  have elist1 := hlist1.hl; subst elist1
  refine W.seq_k fun K2 hK2 => ?_
  refine W.regionT [(0, true)] (by kernel_rfl) ?_
  refine Plan.assign_int rfl rfl ?_
  refine Plan.nil ?_
  refine hK2 _ _ ?_; clear hK2
  refine W.seq_k fun K3 hK3 => ?_
  refine W.seq_k fun K4 hK4 => ?_
  refine W.regionT [(0, true), (1, false), (2, true)] (by kernel_rfl) ?_
  refine Plan.move_slice rfl rfl ?_
  obtain ⟨x_6, hr5, hR⟩ := hR
  refine Plan.call (vs := [.slice alist1 list1.length clist1]) rfl FPack.call85 rfl (pack_records_ok (by exact (LV.grow D25_lifts (fun r hr => List.mem_append_right [] ((fun _ h => h) r hr)) hlist1)) hr5 HST) ?_
  rintro _ w7 ⟨rfl, h7⟩
  refine ⟨_, rfl, .inl ⟨PIn.keep PIn.nil h7, ?_⟩⟩
  refine Plan.assign_int rfl rfl ?_
  refine Plan.nil ?_
  refine hK4 _ _ ?_; clear hK4
  refine W.seq_k fun K8 hK8 => ?_
  refine W.regionT [(0, true), (1, true)] (by kernel_rfl) ?_
  refine Plan.move_int rfl rfl ?_
  refine Plan.cmpP (a := (((x_6 : Nat) : Int) : Int)) (b := (0 : Int)) (p := x_6 ≠ 0) rfl rfl rfl rfl icmp_neN ?_
  refine Plan.nil ?_
  refine hK8 _ _ ?_; clear hK8
  by_cases hc9 : x_6 ≠ 0
  ·
    replace hR := ifT hR hc9
    refine W.condT (congrArg Value.bool (decide_eq_true hc9)) ?_
    refine W.seq_k fun K10 hK10 => ?_
    refine W.regionT [(0, true), (1, true)] (by kernel_rfl) ?_
    refine Plan.move_int rfl rfl ?_
    refine Plan.assign_int rfl rfl ?_
    refine Plan.nil ?_
    refine hK10 _ _ ?_; clear hK10
    refine W.ret (thenR_ret (finR_ret ?_))
    subst r
    refine RetOk.mk (.tmp_int rfl .nil) ?_
    exact ⟨rfl, h7⟩
  ·
    replace hR := ifF hR hc9
    refine W.condF (congrArg Value.bool (decide_eq_false hc9)) ?_
    refine W.skip ?_
    refine hK3 _ _ ?_; clear hK3
    refine W.seq_k fun K11 hK11 => ?_
    refine W.seq_k fun K12 hK12 => ?_
    refine W.regionT [(0, true)] (by kernel_rfl) ?_
    refine Plan.assign_int rfl rfl ?_
    refine Plan.nil ?_
    refine hK12 _ _ ?_; clear hK12
    obtain ⟨x47, hI47, hR047⟩ := hR
    refine W.cutN (fun e w => x47 = some () ∧ EnvHas e [] ∧ St B w0 (L) w) ?_ ?_
    ·
      refine W.block ?_
      refine W.iter hI47 (fun (s47 : Nat) e w => EnvHas e [(0, .slice alist1 list1.length clist1), (4, VN s47)] ∧ St B w0 (L) w) ⟨(EnvHas.cons rfl (EnvHas.cons rfl EnvHas.nil)), h7⟩ ?_
      rintro i_46 o47 hR hx47 ev48 wl48 ⟨he48, h48⟩
      obtain ⟨ev48, rfl⟩ := he48.open
      unfold pack_sorted_l0 at hR
      refine W.seq_k fun K49 hK49 => ?_
      refine W.seq_k fun K50 hK50 => ?_
      refine W.regionT [(0, true), (1, true), (2, true), (3, true)] (by kernel_rfl) ?_
      refine Plan.move_int rfl rfl ?_
      refine Plan.move_slice rfl rfl ?_
      refine Plan.len FPack.isl22 rfl rfl ?_
      refine Plan.cmpP (a := (((i_46 : Nat) : Int) : Int)) (b := (((list1.length : Nat) : Int) : Int)) (p := i_46 < list1.length) rfl rfl rfl rfl icmp_ltN ?_
      refine Plan.nil ?_
      refine hK50 _ _ ?_; clear hK50
      by_cases hc51 : i_46 < list1.length
      ·
        replace hR := ifT hR hc51
        refine W.condT (congrArg Value.bool (decide_eq_true hc51)) ?_
        refine W.skip ?_
        refine hK49 _ _ ?_; clear hK49
        refine W.seq_k fun K52 hK52 => ?_
        refine W.block ?_
        refine W.seq_k fun K53 hK53 => ?_
        refine W.regionD FPack.mixed [(0, true), (1, true), (2, true), (3, true), (4, true), (5, true), (6, true), (7, true), (8, true), (9, false), (10, true)] (by kernel_rfl) ?_
        have h54 := h48.drew
        refine Plan.move_slice rfl rfl ?_
        refine Plan.move_int rfl rfl ?_
        obtain ⟨hc55, hR⟩ := hR
        refine Plan.subI (a := ((i_46 : Nat) : Int)) (b := 1) rfl rfl rfl (by omega) ?_
        obtain ⟨hc56, hR⟩ := hR
        refine Plan.idxLVS (D := (D25.at L)) (j := (((i_46 : Nat) : Int) - 1).toNat) h54 hlist1 FPack.sl22 rfl rfl (congrArg (Value.int .i64) (Int.toNat_of_nonneg hc56.1).symm) (toNat_lt hc56.1 hc56.2) ?_
        refine Plan.loadLV (D := (D25.at L)) (X := list1) (j := (((i_46 : Nat) : Int) - 1).toNat) (sz := 3) h54 ((0 : Int), ([] : List Byte), ([] : List Byte)) hlist1 rfl rfl (toNat_lt hc56.1 hc56.2) rfl FPack.agg25 fun b57 r57 hs57 hr57 => ?_
        obtain ⟨⟨i57_1, hv57_1⟩, ⟨i57_2, hv57_2⟩⟩ := hs57
        refine Plan.move_slice rfl rfl ?_
        refine Plan.move_int rfl rfl ?_
        obtain ⟨hc58, hR⟩ := hR
        refine Plan.idxLVS (D := (D25.at L)) (j := i_46) h54 hlist1 FPack.sl22 rfl rfl rfl hc58 ?_
        refine Plan.loadLV (D := (D25.at L)) (X := list1) (j := i_46) (sz := 3) h54 ((0 : Int), ([] : List Byte), ([] : List Byte)) hlist1 rfl rfl hc58 rfl FPack.agg25 fun b59 r59 hs59 hr59 => ?_
        obtain ⟨⟨i59_1, hv59_1⟩, ⟨i59_2, hv59_2⟩⟩ := hs59
        obtain ⟨x_61, hr60, hR⟩ := hR
        refine Plan.call (vs := [AG [(1, fun _ => .int .i64 ((list1.getD ((((i_46 : Nat) : Int) - 1).toNat) ((0 : Int), ([] : List Byte), ([] : List Byte))).1)), (1, fun _ => .slice ((b57.1).1) (((list1.getD ((((i_46 : Nat) : Int) - 1).toNat) ((0 : Int), ([] : List Byte), ([] : List Byte))).2.1).length) ((b57.1).2)), (1, fun _ => .slice ((b57.2).1) (((list1.getD ((((i_46 : Nat) : Int) - 1).toNat) ((0 : Int), ([] : List Byte), ([] : List Byte))).2.2).length) ((b57.2).2))], AG [(1, fun _ => .int .i64 ((list1.getD i_46 ((0 : Int), ([] : List Byte), ([] : List Byte))).1)), (1, fun _ => .slice ((b59.1).1) (((list1.getD i_46 ((0 : Int), ([] : List Byte), ([] : List Byte))).2.1).length) ((b59.1).2)), (1, fun _ => .slice ((b59.2).1) (((list1.getD i_46 ((0 : Int), ([] : List Byte), ([] : List Byte))).2.2).length) ((b59.2).2))]]) rfl FPack.call16 rfl (pack_Compare_ok hv57_1 hv57_2 hv59_1 hv59_2 hr60 h54) ?_
        rintro _ w62 ⟨rfl, h62⟩
        refine ⟨_, rfl, .inr ⟨rfl, ?_⟩⟩
        refine Plan.cmpP (a := (x_61 : Int)) (b := (0 : Int)) (p := 0 ≤ x_61) rfl rfl rfl rfl icmp_ge ?_
        refine Plan.nil ?_
        refine hK53 _ _ ?_; clear hK53
        by_cases hc63 : 0 ≤ x_61
        ·
          replace hR := ifT hR hc63
          refine W.condT (congrArg Value.bool (decide_eq_true hc63)) ?_
          refine W.seq_k fun K64 hK64 => ?_
          refine W.regionT [(0, true)] (by kernel_rfl) ?_
          refine Plan.assign_int rfl rfl ?_
          refine Plan.nil ?_
          refine hK64 _ _ ?_; clear hK64
          refine W.ret (blockR_ret (thenR_ret (iterR_ret (blockR_ret (thenR_ret (thenR_ret (finR_ret ?_)))))))
          replace hR := hR.2
          subst r
          refine RetOk.mk (.tmp_int rfl .nil) ?_
          exact ⟨rfl, h62⟩
        ·
          replace hR := ifF hR hc63
          refine W.condF (congrArg Value.bool (decide_eq_false hc63)) ?_
          refine W.skip ?_
          refine blockR_norm ?_
          refine hK52 _ _ ?_; clear hK52
          refine W.regionT [(0, true), (1, true), (2, true)] (by kernel_rfl) ?_
          refine Plan.move_int rfl rfl ?_
          obtain ⟨hc65, hR⟩ := hR
          refine Plan.addN (a := i_46) (b := 1) rfl rfl rfl (by omega) ?_
          refine Plan.assign_int rfl rfl ?_
          refine Plan.nil ?_
          exact iterR_norm ⟨_, hR, (EnvHas.cons rfl (EnvHas.cons rfl EnvHas.nil)), h62⟩
      ·
        replace hR := ifF hR hc51
        refine W.condF (congrArg Value.bool (decide_eq_false hc51)) ?_
        refine W.exit (thenR_exit (iterR_exit (blockR_here ?_)))
        exact ⟨(hx47 _ hR).symm, EnvHas.nil, h48⟩
    ·
      rintro ev66 wl66 ⟨hy66, he66, h66⟩
      obtain ⟨ev66, rfl⟩ := he66.open
      replace hR := hR047  hy66
      refine hK11 _ _ ?_; clear hK11
      refine W.seq_k fun K67 hK67 => ?_
      refine W.regionT [(0, true)] (by kernel_rfl) ?_
      refine Plan.assign_int rfl rfl ?_
      refine Plan.nil ?_
      refine hK67 _ _ ?_; clear hK67
      refine W.ret (finR_ret ?_)
      subst r
      refine RetOk.mk (.tmp_int rfl .nil) ?_
      exact ⟨rfl, h66⟩


set_option maxRecDepth 8000 in
set_option maxHeartbeats 1000000 in
theorem pack_place_1_ok {B : Nat} {w0 w : World} {L : List Rg} {aTable1 : Int} {aKey2 : List Byte} {aaKey2 : Option Addr} {naKey2 caKey2 iaKey2 : Nat} (haKey2 : Bx L iaKey2 aaKey2 naKey2 caKey2 aKey2) {aValue3 : List Byte} {aaValue3 : Option Addr} {naValue3 caValue3 iaValue3 : Nat} (haValue3 : Bx L iaValue3 aaValue3 naValue3 caValue3 aValue3) {bTable4 : Int} {bKey5 : List Byte} {abKey5 : Option Addr} {nbKey5 cbKey5 ibKey5 : Nat} (hbKey5 : Bx L ibKey5 abKey5 nbKey5 cbKey5 bKey5) {bValue6 : List Byte} {abValue6 : Option Addr} {nbValue6 cbValue6 ibValue6 : Nat} (hbValue6 : Bx L ibValue6 abValue6 nbValue6 cbValue6 bValue6) {r : Int} (hR : pack_place_1 aTable1 aKey2 aValue3 bTable4 bKey5 bValue6 r) (HST : St B w0 (L) w) :
    Calls Try.prog 87 #[AG [(1, fun _ => .int .i64 aTable1), (1, fun _ => .slice aaKey2 naKey2 caKey2), (1, fun _ => .slice aaValue3 naValue3 caValue3)], AG [(1, fun _ => .int .i64 bTable4), (1, fun _ => .slice abKey5 nbKey5 cbKey5), (1, fun _ => .slice abValue6 nbValue6 cbValue6)]] w fun e w' => e = .returned (.int .i64 r) ∧ St B w0 (L) w' := by
  refine W.enter 8 Try.func87 rfl rfl rfl ?_
  unfold pack_place_1 at hR
  have eaKey2 := haKey2.hl; subst eaKey2
  have eaValue3 := haValue3.hl; subst eaValue3
  have ebKey5 := hbKey5.hl; subst ebKey5
  have ebValue6 := hbValue6.hl; subst ebValue6
  refine W.seq_k fun K7 hK7 => ?_
  refine W.regionT [(0, false), (1, false), (2, true)] (by kernel_rfl) ?_
  refine Plan.boxA HST rfl rfl PIn.nil fun b8 w8 hb8 h8 => ?_
  simp only [rngs, Nat.zero_add, Nat.reduceAdd, List.cons_append, List.nil_append] at h8
  refine Plan.boxA h8 rfl rfl PIn.nil fun b9 w9 hb9 h9 => ?_
  simp only [rngs, Nat.zero_add, Nat.reduceAdd, List.cons_append, List.nil_append] at h9
  refine Plan.assign_int rfl rfl ?_
  refine Plan.nil ?_
  refine hK7 _ _ ?_; clear hK7
  refine W.seq_k fun K10 hK10 => ?_
  refine W.regionT [(0, true), (1, true), (2, false), (3, true)] (by kernel_rfl) ?_
  refine Plan.loadA h9 rfl rfl (.cons 3 rfl (.cons 4 rfl (.cons 5 rfl .nil))) FPack.agg25 ?_
  refine Plan.loadA h9 rfl rfl (.cons 0 rfl (.cons 1 rfl (.cons 2 rfl .nil))) FPack.agg25 ?_
  obtain ⟨x_12, hr11, hR⟩ := hR
  refine Plan.call (vs := [AG [(1, fun _ => .int .i64 aTable1), (1, fun _ => .slice aaKey2 aKey2.length caKey2), (1, fun _ => .slice aaValue3 aValue3.length caValue3)], AG [(1, fun _ => .int .i64 bTable4), (1, fun _ => .slice abKey5 bKey5.length cbKey5), (1, fun _ => .slice abValue6 bValue6.length cbValue6)]]) rfl FPack.call16 rfl (pack_Compare_ok (haKey2.app [_, _, _, _, _, _]) (haValue3.app [_, _, _, _, _, _]) (hbKey5.app [_, _, _, _, _, _]) (hbValue6.app [_, _, _, _, _, _]) hr11 h9) ?_
  rintro _ w13 ⟨rfl, h13⟩
  refine ⟨_, rfl, .inr ⟨rfl, ?_⟩⟩
  refine Plan.assign_int rfl rfl ?_
  refine Plan.nil ?_
  refine hK10 _ _ ?_; clear hK10
  refine W.ret (finR_ret ?_)
  have h14 := St.pickT (C := [_, _, _, _, _, _]) h13 [] (by decide)
  simp only [pick, List.filterMap_cons, List.filterMap_nil, List.getElem?_cons_zero, List.getElem?_cons_succ, List.cons_append, List.nil_append] at h14
  subst r
  refine RetOk.mk (.tmp_int rfl .nil) ?_
  exact ⟨rfl, h14⟩


set_option maxRecDepth 8000 in
set_option maxHeartbeats 1000000 in
theorem slices_BinarySearchFunc_api_Record_api_Record_api_Record__of_pack_place_1_ok {B : Nat} {w0 w : World} {L : List Rg} {x_1 : List (Int × (List Byte) × (List Byte))} {ax_1 : Option Addr} {nx_1 cx_1 ix_1 : Nat} (hx_1 : LV (D25.at L) L ix_1 ax_1 nx_1 cx_1 x_1) {targetTable2 : Int} {targetKey3 : List Byte} {atargetKey3 : Option Addr} {ntargetKey3 ctargetKey3 itargetKey3 : Nat} (htargetKey3 : Bx L itargetKey3 atargetKey3 ntargetKey3 ctargetKey3 targetKey3) {targetValue4 : List Byte} {atargetValue4 : Option Addr} {ntargetValue4 ctargetValue4 itargetValue4 : Nat} (htargetValue4 : Bx L itargetValue4 atargetValue4 ntargetValue4 ctargetValue4 targetValue4) {r : (Nat × Bool)} (hR : slices_BinarySearchFunc_api_Record_api_Record_api_Record__of_pack_place_1 x_1 targetTable2 targetKey3 targetValue4 r) (HST : St B w0 (L) w) :
    Calls Try.prog 86 #[.slice ax_1 nx_1 cx_1, AG [(1, fun _ => .int .i64 targetTable2), (1, fun _ => .slice atargetKey3 ntargetKey3 ctargetKey3), (1, fun _ => .slice atargetValue4 ntargetValue4 ctargetValue4)], .func (.func 87) #[] #[]] w fun e w' => e = .returned (.tuple #[VN r.1, .bool r.2]) ∧ St B w0 (L) w' := by
  refine W.enter 49 Try.func86 rfl rfl rfl ?_
  unfold slices_BinarySearchFunc_api_Record_api_Record_api_Record__of_pack_place_1 at hR
  have ex_1 := hx_1.hl; subst ex_1
  have etargetKey3 := htargetKey3.hl; subst etargetKey3
  have etargetValue4 := htargetValue4.hl; subst etargetValue4
  refine W.seq_k fun K5 hK5 => ?_
  refine W.regionT [(0, false), (1, true), (2, true)] (by kernel_rfl) ?_
  refine Plan.boxA HST rfl rfl PIn.nil fun b6 w6 hb6 h6 => ?_
  simp only [rngs, Nat.zero_add, Nat.reduceAdd, List.cons_append, List.nil_append] at h6
  refine Plan.assign_int rfl rfl ?_
  refine Plan.assign_bool rfl rfl ?_
  refine Plan.nil ?_
  refine hK5 _ _ ?_; clear hK5
  refine W.seq_k fun K7 hK7 => ?_
  refine W.regionT [(0, true), (1, true), (2, true)] (by kernel_rfl) ?_
  refine Plan.move_slice rfl rfl ?_
  refine Plan.len FPack.isl22 rfl rfl ?_
  refine Plan.assign_int rfl rfl ?_
  refine Plan.nil ?_
  refine hK7 _ _ ?_; clear hK7
  refine W.seq_k fun K8 hK8 => ?_
  refine W.regionT [(0, true), (1, true), (2, true)] (by kernel_rfl) ?_
  refine Plan.move_int rfl rfl ?_
  refine Plan.assign_int rfl rfl ?_
  refine Plan.assign_int rfl rfl ?_
  refine Plan.nil ?_
  refine hK8 _ _ ?_; clear hK8
  refine W.seq_k fun K9 hK9 => ?_
  obtain ⟨i_44, hI45, hR045⟩ := hR
  refine W.cutN (fun e w => ∃ y_i_44 : Nat, i_44 = y_i_44 ∧ EnvHas e [(0, .slice ax_1 x_1.length cx_1), (2, .func (.func 87) #[] #[]), (4, .pointer (some ⟨b6, 0, none⟩)), (8, VN x_1.length), (9, VN y_i_44)] ∧ St B w0 (⟨some b6, 0, 1, fun _ => .int .i64 targetTable2, true⟩ :: ⟨some b6, 1, 1, fun _ => .slice atargetKey3 targetKey3.length ctargetKey3, true⟩ :: ⟨some b6, 2, 1, fun _ => .slice atargetValue4 targetValue4.length ctargetValue4, true⟩ :: L) w) ?_ ?_
  ·
    refine W.block ?_
    refine W.iter hI45 (fun (s45 : (Nat × Nat)) e w => EnvHas e [(0, .slice ax_1 x_1.length cx_1), (2, .func (.func 87) #[] #[]), (4, .pointer (some ⟨b6, 0, none⟩)), (8, VN x_1.length), (9, VN s45.1), (10, VN s45.2)] ∧ St B w0 (⟨some b6, 0, 1, fun _ => .int .i64 targetTable2, true⟩ :: ⟨some b6, 1, 1, fun _ => .slice atargetKey3 targetKey3.length ctargetKey3, true⟩ :: ⟨some b6, 2, 1, fun _ => .slice atargetValue4 targetValue4.length ctargetValue4, true⟩ :: L) w) ⟨(EnvHas.cons rfl (EnvHas.cons rfl (EnvHas.cons rfl (EnvHas.cons rfl (EnvHas.cons rfl (EnvHas.cons rfl EnvHas.nil)))))), h6⟩ ?_
    rintro ⟨i_42, j43⟩ o45 hR hx45 ev46 wl46 ⟨he46, h46⟩
    obtain ⟨ev46, rfl⟩ := he46.open
    unfold slices_BinarySearchFunc_api_Record_api_Record_api_Record__of_pack_place_1_l0 at hR
    refine W.seq_k fun K47 hK47 => ?_
    refine W.seq_k fun K48 hK48 => ?_
    refine W.regionT [(0, true), (1, true), (2, true)] (by kernel_rfl) ?_
    refine Plan.move_int rfl rfl ?_
    refine Plan.move_int rfl rfl ?_
    refine Plan.cmpP (a := (((i_42 : Nat) : Int) : Int)) (b := (((j43 : Nat) : Int) : Int)) (p := i_42 < j43) rfl rfl rfl rfl icmp_ltN ?_
    refine Plan.nil ?_
    refine hK48 _ _ ?_; clear hK48
    by_cases hc49 : i_42 < j43
    ·
      replace hR := ifT hR hc49
      refine W.condT (congrArg Value.bool (decide_eq_true hc49)) ?_
      refine W.skip ?_
      refine hK47 _ _ ?_; clear hK47
      refine W.block ?_
      refine W.seq_k fun K50 hK50 => ?_
      refine W.regionT [(0, true), (1, true), (2, true), (3, true), (4, true), (5, true), (6, true)] (by kernel_rfl) ?_
      refine Plan.move_int rfl rfl ?_
      refine Plan.move_int rfl rfl ?_
      obtain ⟨hc51, hR⟩ := hR
      refine Plan.addN (a := i_42) (b := j43) rfl rfl rfl (by omega) ?_
      refine Plan.convNU .u64 (a := (i_42 + j43)) FPack.u121 FPack.some3 rfl rfl ?_
      refine Plan.shrU .u64 (X := (BitVec.ofNat 64 (i_42 + j43))) (c := 1) rfl rfl rfl ?_
      obtain ⟨hc52, hR⟩ := hR
      refine Plan.convN (a := ((BitVec.ofNat 64 (i_42 + j43)) >>> 1).toNat) FPack.u3 FPack.some121 rfl rfl hc52 ?_
      refine Plan.assign_int rfl rfl ?_
      refine Plan.nil ?_
      refine hK50 _ _ ?_; clear hK50
      refine W.seq_k fun K53 hK53 => ?_
      refine W.regionD FPack.mixed [(0, true), (1, true), (2, true), (3, true), (4, true), (5, true), (6, false), (7, true)] (by kernel_rfl) ?_
      have h54 := h46.drew
      refine Plan.move rfl rfl ?_
      refine Plan.move_slice rfl rfl ?_
      refine Plan.move_int rfl rfl ?_
      obtain ⟨hc55, hR⟩ := hR
      refine Plan.idxLVS (D := (D25.at L)) (j := ((BitVec.ofNat 64 (i_42 + j43)) >>> 1).toNat) h54 (hx_1.app [_, _, _]) FPack.sl22 rfl rfl rfl hc55 ?_
      refine Plan.loadLV (D := (D25.at L)) (X := x_1) (j := ((BitVec.ofNat 64 (i_42 + j43)) >>> 1).toNat) (sz := 3) h54 ((0 : Int), ([] : List Byte), ([] : List Byte)) (hx_1.app [_, _, _]) rfl rfl hc55 rfl FPack.agg25 fun b56 r56 hs56 hr56 => ?_
      obtain ⟨⟨i56_1, hv56_1⟩, ⟨i56_2, hv56_2⟩⟩ := hs56
      refine Plan.loadA h54 rfl rfl (.cons 0 rfl (.cons 1 rfl (.cons 2 rfl .nil))) FPack.agg25 ?_
      obtain ⟨x_58, hr57, hR⟩ := hR
      refine Plan.callF (f := 87) (vs := [AG [(1, fun _ => .int .i64 ((x_1.getD (((BitVec.ofNat 64 (i_42 + j43)) >>> 1).toNat) ((0 : Int), ([] : List Byte), ([] : List Byte))).1)), (1, fun _ => .slice ((b56.1).1) (((x_1.getD (((BitVec.ofNat 64 (i_42 + j43)) >>> 1).toNat) ((0 : Int), ([] : List Byte), ([] : List Byte))).2.1).length) ((b56.1).2)), (1, fun _ => .slice ((b56.2).1) (((x_1.getD (((BitVec.ofNat 64 (i_42 + j43)) >>> 1).toNat) ((0 : Int), ([] : List Byte), ([] : List Byte))).2.2).length) ((b56.2).2))], AG [(1, fun _ => .int .i64 targetTable2), (1, fun _ => .slice atargetKey3 targetKey3.length ctargetKey3), (1, fun _ => .slice atargetValue4 targetValue4.length ctargetValue4)]]) (cs := []) rfl rfl FPack.call87 rfl (pack_place_1_ok (hv56_1.app [_, _, _]) (hv56_2.app [_, _, _]) (htargetKey3.app [_, _, _]) (htargetValue4.app [_, _, _]) hr57 h54) ?_
      rintro _ w59 ⟨rfl, h59⟩
      refine ⟨_, rfl, .inr ⟨rfl, ?_⟩⟩
      refine Plan.cmpP (a := (x_58 : Int)) (b := (0 : Int)) (p := x_58 < 0) rfl rfl rfl rfl icmp_lt ?_
      refine Plan.nil ?_
      refine hK53 _ _ ?_; clear hK53
      by_cases hc60 : x_58 < 0
      ·
        replace hR := ifT hR hc60
        refine W.condT (congrArg Value.bool (decide_eq_true hc60)) ?_
        refine W.regionT [(0, true), (1, true), (2, true)] (by kernel_rfl) ?_
        refine Plan.move_int rfl rfl ?_
        obtain ⟨hc61, hR⟩ := hR
        refine Plan.addN (a := ((BitVec.ofNat 64 (i_42 + j43)) >>> 1).toNat) (b := 1) rfl rfl rfl (by omega) ?_
        refine Plan.assign_int rfl rfl ?_
        refine Plan.nil ?_
        refine blockR_norm ?_
        exact iterR_norm ⟨_, hR, (EnvHas.cons rfl (EnvHas.cons rfl (EnvHas.cons rfl (EnvHas.cons rfl (EnvHas.cons rfl (EnvHas.cons rfl EnvHas.nil)))))), h59⟩
      ·
        replace hR := ifF hR hc60
        refine W.condF (congrArg Value.bool (decide_eq_false hc60)) ?_
        refine W.regionT [(0, true), (1, true)] (by kernel_rfl) ?_
        refine Plan.move_int rfl rfl ?_
        refine Plan.assign_int rfl rfl ?_
        refine Plan.nil ?_
        refine blockR_norm ?_
        exact iterR_norm ⟨_, hR, (EnvHas.cons rfl (EnvHas.cons rfl (EnvHas.cons rfl (EnvHas.cons rfl (EnvHas.cons rfl (EnvHas.cons rfl EnvHas.nil)))))), h59⟩
    ·
      replace hR := ifF hR hc49
      refine W.condF (congrArg Value.bool (decide_eq_false hc49)) ?_
      refine W.exit (thenR_exit (iterR_exit (blockR_here ?_)))
      exact ⟨i_42, (hx45 _ hR).symm, (EnvHas.cons rfl (EnvHas.cons rfl (EnvHas.cons rfl (EnvHas.cons rfl (EnvHas.cons rfl EnvHas.nil))))), h46⟩
  ·
    rintro ev62 wl62 ⟨y_i_44, hy62, he62, h62⟩
    obtain ⟨ev62, rfl⟩ := he62.open
    subst hy62
    replace hR := hR045
    refine hK9 _ _ ?_; clear hK9
    refine W.seq_k fun K63 hK63 => ?_
    refine W.regionD FPack.mixed [(0, true), (1, true), (2, true), (3, true), (4, true), (5, true), (6, true), (7, true), (8, true), (9, true), (10, true), (11, false), (12, true), (13, true), (14, true), (15, true)] (by kernel_rfl) ?_
    have h64 := h62.drew
    refine Plan.move_int rfl rfl ?_
    refine Plan.move_int rfl rfl ?_
    refine Plan.move_int rfl rfl ?_
    by_cases hc65 : i_44 < x_1.length
    ·
      replace hR := ifT hR hc65
      refine Plan.cmpV (a := (((i_44 : Nat) : Int) : Int)) (b := (((x_1.length : Nat) : Int) : Int)) (p := i_44 < x_1.length) (v := true) rfl rfl rfl rfl icmp_ltN (decide_eq_true hc65) ?_
      refine Plan.move_bool rfl rfl ?_
      refine Plan.move rfl rfl ?_
      refine Plan.move_slice rfl rfl ?_
      refine Plan.move_int rfl rfl ?_
      obtain ⟨hc66, hR⟩ := hR
      refine Plan.idxLVS (D := (D25.at L)) (j := i_44) h64 (hx_1.app [_, _, _]) FPack.sl22 rfl rfl rfl hc66 ?_
      refine Plan.loadLV (D := (D25.at L)) (X := x_1) (j := i_44) (sz := 3) h64 ((0 : Int), ([] : List Byte), ([] : List Byte)) (hx_1.app [_, _, _]) rfl rfl hc66 rfl FPack.agg25 fun b67 r67 hs67 hr67 => ?_
      obtain ⟨⟨i67_1, hv67_1⟩, ⟨i67_2, hv67_2⟩⟩ := hs67
      refine Plan.loadA h64 rfl rfl (.cons 0 rfl (.cons 1 rfl (.cons 2 rfl .nil))) FPack.agg25 ?_
      obtain ⟨x_69, hr68, hR⟩ := hR
      refine Plan.callF (f := 87) (vs := [AG [(1, fun _ => .int .i64 ((x_1.getD i_44 ((0 : Int), ([] : List Byte), ([] : List Byte))).1)), (1, fun _ => .slice ((b67.1).1) (((x_1.getD i_44 ((0 : Int), ([] : List Byte), ([] : List Byte))).2.1).length) ((b67.1).2)), (1, fun _ => .slice ((b67.2).1) (((x_1.getD i_44 ((0 : Int), ([] : List Byte), ([] : List Byte))).2.2).length) ((b67.2).2))], AG [(1, fun _ => .int .i64 targetTable2), (1, fun _ => .slice atargetKey3 targetKey3.length ctargetKey3), (1, fun _ => .slice atargetValue4 targetValue4.length ctargetValue4)]]) (cs := []) rfl rfl FPack.call87 rfl (pack_place_1_ok (hv67_1.app [_, _, _]) (hv67_2.app [_, _, _]) (htargetKey3.app [_, _, _]) (htargetValue4.app [_, _, _]) hr68 h64) ?_
      rintro _ w70 ⟨rfl, h70⟩
      refine ⟨_, rfl, .inr ⟨rfl, ?_⟩⟩
      refine Plan.cmpP (a := (x_69 : Int)) (b := (0 : Int)) (p := x_69 = 0) rfl rfl rfl rfl icmp_eq ?_
      refine Plan.pickTb rfl rfl rfl ?_
      refine Plan.assign_int rfl rfl ?_
      refine Plan.assign_bool rfl rfl ?_
      refine Plan.nil ?_
      refine hK63 _ _ ?_; clear hK63
      refine W.ret (finR_ret ?_)
      have h71 := St.pickT (C := [_, _, _]) h70 [] (by decide)
      simp only [pick, List.filterMap_cons, List.filterMap_nil, List.getElem?_cons_zero, List.getElem?_cons_succ, List.cons_append, List.nil_append] at h71
      subst r
      refine RetOk.mk (.tmp_int rfl (.tmp_bool rfl .nil)) ?_
      exact ⟨rfl, h71⟩
    ·
      replace hR := ifF hR hc65
      refine Plan.cmpV (a := (((i_44 : Nat) : Int) : Int)) (b := (((x_1.length : Nat) : Int) : Int)) (p := i_44 < x_1.length) (v := false) rfl rfl rfl rfl icmp_ltN (decide_eq_false hc65) ?_
      refine Plan.move_bool rfl rfl ?_
      refine Plan.passed rfl ?_
      refine Plan.passed rfl ?_
      refine Plan.passed rfl ?_
      refine Plan.passed rfl ?_
      refine Plan.passed rfl ?_
      refine Plan.passed rfl ?_
      refine Plan.passed rfl ?_
      refine Plan.passed rfl ?_
      refine Plan.pickFb rfl rfl rfl ?_
      refine Plan.assign_int rfl rfl ?_
      refine Plan.assign_bool rfl rfl ?_
      refine Plan.nil ?_
      refine hK63 _ _ ?_; clear hK63
      refine W.ret (finR_ret ?_)
      have h72 := St.pickT (C := [_, _, _]) h64 [] (by decide)
      simp only [pick, List.filterMap_cons, List.filterMap_nil, List.getElem?_cons_zero, List.getElem?_cons_succ, List.cons_append, List.nil_append] at h72
      subst r
      refine RetOk.mk (.tmp_int rfl (.tmp_bool rfl .nil)) ?_
      exact ⟨rfl, h72⟩


set_option maxRecDepth 8000 in
set_option maxHeartbeats 1000000 in
theorem pack_place_ok {B : Nat} {w0 w : World} {L : List Rg} {list1 : List (Int × (List Byte) × (List Byte))} {alist1 : Option Addr} {nlist1 clist1 ilist1 : Nat} (hlist1 : LV (D25.at L) L ilist1 alist1 nlist1 clist1 list1) {rTable2 : Int} {rKey3 : List Byte} {arKey3 : Option Addr} {nrKey3 crKey3 irKey3 : Nat} (hrKey3 : Bx L irKey3 arKey3 nrKey3 crKey3 rKey3) {rValue4 : List Byte} {arValue4 : Option Addr} {nrValue4 crValue4 irValue4 : Nat} (hrValue4 : Bx L irValue4 arValue4 nrValue4 crValue4 rValue4) {r : (Nat × Bool)} (hR : pack_place list1 rTable2 rKey3 rValue4 r) (HST : St B w0 (L) w) :
    Calls Try.prog 61 #[.slice alist1 nlist1 clist1, AG [(1, fun _ => .int .i64 rTable2), (1, fun _ => .slice arKey3 nrKey3 crKey3), (1, fun _ => .slice arValue4 nrValue4 crValue4)]] w fun e w' => e = .returned (.tuple #[VN r.1, .bool r.2]) ∧ St B w0 (L) w' := by
  refine W.enter 11 Try.func61 rfl rfl rfl ?_
  unfold pack_place at hR
  have elist1 := hlist1.hl; subst elist1
  have erKey3 := hrKey3.hl; subst erKey3
  have erValue4 := hrValue4.hl; subst erValue4
  refine W.seq_k fun K5 hK5 => ?_
  refine W.regionT [(0, false), (1, true), (2, true)] (by kernel_rfl) ?_
  refine Plan.boxA HST rfl rfl PIn.nil fun b6 w6 hb6 h6 => ?_
  simp only [rngs, Nat.zero_add, Nat.reduceAdd, List.cons_append, List.nil_append] at h6
  refine Plan.assign_int rfl rfl ?_
  refine Plan.assign_bool rfl rfl ?_
  refine Plan.nil ?_
  refine hK5 _ _ ?_; clear hK5
  refine W.seq_k fun K7 hK7 => ?_
  refine W.regionT [(0, true), (1, true), (2, false), (3, true), (4, true), (5, true), (6, true)] (by kernel_rfl) ?_
  refine Plan.move_slice rfl rfl ?_
  refine Plan.loadA h6 rfl rfl (.cons 0 rfl (.cons 1 rfl (.cons 2 rfl .nil))) FPack.agg25 ?_
  obtain ⟨x_9, x_10, hr8, hR⟩ := hR
  refine Plan.call (vs := [.slice alist1 list1.length clist1, AG [(1, fun _ => .int .i64 rTable2), (1, fun _ => .slice arKey3 rKey3.length crKey3), (1, fun _ => .slice arValue4 rValue4.length crValue4)], .func (.func 87) #[] #[]]) rfl FPack.call86 rfl (slices_BinarySearchFunc_api_Record_api_Record_api_Record__of_pack_place_1_ok (by exact (LV.grow D25_lifts (fun r hr => List.mem_append_right [_, _, _] ((fun _ h => h) r hr)) (hlist1.app [_, _, _]))) (hrKey3.app [_, _, _]) (hrValue4.app [_, _, _]) hr8 h6) ?_
  rintro _ w11 ⟨rfl, h11⟩
  refine ⟨_, rfl, .inr ⟨rfl, ?_⟩⟩
  refine Plan.extract_int rfl rfl rfl ?_
  refine Plan.extract_bool rfl rfl rfl ?_
  refine Plan.assign_int rfl rfl ?_
  refine Plan.assign_bool rfl rfl ?_
  refine Plan.nil ?_
  refine hK7 _ _ ?_; clear hK7
  refine W.ret (finR_ret ?_)
  have h12 := St.pickT (C := [_, _, _]) h11 [] (by decide)
  simp only [pick, List.filterMap_cons, List.filterMap_nil, List.getElem?_cons_zero, List.getElem?_cons_succ, List.cons_append, List.nil_append] at h12
  subst r
  refine RetOk.mk (.tmp_int rfl (.tmp_bool rfl .nil)) ?_
  exact ⟨rfl, h12⟩


set_option maxRecDepth 8000 in
set_option maxHeartbeats 1000000 in
theorem pack_twin_ok {B : Nat} {w0 w : World} {L : List Rg} {rTable1 : Int} {rKey2 : List Byte} {arKey2 : Option Addr} {nrKey2 crKey2 irKey2 : Nat} (hrKey2 : Bx L irKey2 arKey2 nrKey2 crKey2 rKey2) {rValue3 : List Byte} {arValue3 : Option Addr} {nrValue3 crValue3 irValue3 : Nat} (hrValue3 : Bx L irValue3 arValue3 nrValue3 crValue3 rValue3) {r : (Int × (List Byte) × (List Byte))} (hR : pack_twin rTable1 rKey2 rValue3 r) (HST : St B w0 (L) w) :
    Calls Try.prog 63 #[AG [(1, fun _ => .int .i64 rTable1), (1, fun _ => .slice arKey2 nrKey2 crKey2), (1, fun _ => .slice arValue3 nrValue3 crValue3)]] w fun e w' => ∃ C : List Rg, ∃ iy0_1 : Nat, ∃ ay0_1 : Option Addr, ∃ cy0_1 : Nat, ∃ iy0_2 : Nat, ∃ ay0_2 : Option Addr, ∃ cy0_2 : Nat, e = .returned (AG [(1, fun _ => .int .i64 r.1), (1, fun _ => .slice ay0_1 r.2.1.length cy0_1), (1, fun _ => .slice ay0_2 r.2.2.length cy0_2)]) ∧ St B w0 ((C ++ L)) w' ∧ Bx C iy0_1 ay0_1 r.2.1.length cy0_1 r.2.1 ∧ Bx C iy0_2 ay0_2 r.2.2.length cy0_2 r.2.2 := by
  refine W.enter 14 Try.func63 rfl rfl rfl ?_
  unfold pack_twin at hR
  obtain ⟨LP, hLPn⟩ : ∃ X, X = ([] : List Rg) := ⟨_, rfl⟩
  have hLP : ∀ r ∈ LP, r ∈ L := by rw [hLPn]; exact fun r hr => nomatch hr
  have hFr : Fr2 L [] L LP := by rw [hLPn]; exact Fr2.refl _ _
  have erKey2 := hrKey2.hl; subst erKey2
  have erValue3 := hrValue3.hl; subst erValue3
  refine W.seq_k fun K4 hK4 => ?_
  refine W.regionT [(0, false), (1, false)] (by kernel_rfl) ?_
  refine Plan.boxA HST rfl rfl PIn.nil fun b5 w5 hb5 h5 => ?_
  simp only [rngs, Nat.zero_add, Nat.reduceAdd, List.cons_append, List.nil_append] at h5
  refine Plan.alloc h5 rfl FPack.z25 PIn.nil fun b6 w6 hb6 h6 => ?_
  simp only [rngs, Nat.zero_add, Nat.reduceAdd, List.cons_append, List.nil_append] at h6
  refine Plan.nil ?_
  refine hK4 _ _ ?_; clear hK4
  refine W.seq_k fun K7 hK7 => ?_
  refine W.regionF FPack.mixed (.fork [(0, true), (1, true), (2, true), (3, true), (6, true), (7, true)] (.fork [(4, false)] (.line [(5, false), (8, false), (9, false), (10, true), (11, false)]) (.line [(8, false), (5, false), (9, false), (10, true), (11, false)])) (.line [(8, false), (4, false), (5, false), (9, false), (10, true), (11, false)])) (by kernel_rfl) (PlanT.toFork ?_)
  have h8 := h6.drew
  refine Plan.fieldAddr0 FPack.fld25_0 rfl rfl ?_
  refine Plan.load0 h8 3 rfl rfl rfl (by omega) FPack.sc3 ?_
  refine Plan.fieldAddr 1 FPack.fld25_1 rfl rfl ?_
  refine Plan.load0 h8 4 rfl rfl rfl (by omega) FPack.sc23 ?_
  refine Plan.fieldAddr 2 FPack.fld25_2 rfl rfl ?_
  refine Plan.load0 h8 5 rfl rfl rfl (by omega) FPack.sc23 ?_
  obtain ⟨x_12, hr11, hR⟩ := hR
  obtain ⟨x_22, hr21, hR⟩ := hR
  obtain ⟨x_33, hr32, hR⟩ := hR
  obtain ⟨x_41, hr40, hR⟩ := hR
  refine Plan.forked ?_ ?_
  ·
    refine PlanT.toFork ?_
    refine Plan.buildSlice h8 (ps := [(1, fun i => .slice ((fun i => ([arKey2] : List (Option Addr)).getD i none) i) ((fun i => ([rKey2.length] : List Nat).getD i 0) i) ((fun i => ([crKey2] : List Nat).getD i 0) i))]) FPack.slu61 FPack.sz23 FPack.zv23 (by decide) (by decide) rfl rfl rfl (EffO.mix _ (Filt.keep rfl (Filt.drop rfl (Filt.keep rfl Filt.nil))) (PIn.cons 5 rfl (PIn.cons 3 rfl PIn.nil))) fun b50 w50 hb50 h50 => ?_
    simp only [rngs, List.cons_append, List.nil_append] at h50
    refine Plan.forked ?_ ?_
    ·
      refine PlanT.toLine ?_
      refine Plan.call (vs := [.slice (some ⟨b50, 0, none⟩) 1 1]) rfl FPack.call88 rfl (wire_Join_ok (by exact (Bss.of 0 rfl rfl (fun i hi => match i, hi with | 0, _ => ⟨_, (hrKey2.app [_, _, _, _, _, _, _])⟩ | k + 1, hk => absurd hk (by omega)))) hr32 h50) ?_
      rintro _ w58 ⟨ay0_53, py0_54, ny0_55, cy0_56, Fy0_57, rfl, h58, hf58_0⟩
      obtain rfl := hf58_0.hl
      refine ⟨_, rfl, .inl ⟨PIn.keep (PIn.cons 7 rfl (PIn.cons 5 rfl PIn.nil)) h58, ?_⟩⟩
      refine Plan.buildSlice h58 (ps := [(1, fun i => .slice ((fun i => ([arValue3] : List (Option Addr)).getD i none) i) ((fun i => ([rValue3.length] : List Nat).getD i 0) i) ((fun i => ([crValue3] : List Nat).getD i 0) i))]) FPack.slu61 FPack.sz23 FPack.zv23 (by decide) (by decide) rfl rfl rfl (EffO.mix _ (Filt.drop rfl (Filt.keep rfl Filt.nil)) (PIn.cons 5 rfl PIn.nil)) fun b60 w60 hb60 h60 => ?_
      simp only [rngs, List.cons_append, List.nil_append] at h60
      refine Plan.call (vs := [.slice (some ⟨b60, 0, none⟩) 1 1]) rfl FPack.call88 rfl (wire_Join_ok (by exact (Bss.of 0 rfl rfl (fun i hi => match i, hi with | 0, _ => ⟨_, (hrValue3.app [_, _, _, _, _, _, _, _, _])⟩ | k + 1, hk => absurd hk (by omega)))) hr40 h60) ?_
      rintro _ w68 ⟨ay0_63, py0_64, ny0_65, cy0_66, Fy0_67, rfl, h68, hf68_0⟩
      obtain rfl := hf68_0.hl
      refine ⟨_, rfl, .inl ⟨PIn.keep (PIn.cons 7 rfl PIn.nil) h68, ?_⟩⟩
      refine Plan.buildP (ps := [(1, fun _ => .int .i64 rTable1), (1, fun _ => .slice ay0_53 x_33.length cy0_56), (1, fun _ => .slice ay0_63 x_41.length cy0_66)]) FPack.pl25 (by decide) FPack.z25 rfl rfl (.one [] [(1, fun _ => .slice none 0 0), (1, fun _ => .slice none 0 0)] (fun _ => VN 0) rfl rfl (.one [(1, fun _ => .int .i64 rTable1)] [(1, fun _ => .slice none 0 0)] (fun _ => .slice none 0 0) rfl rfl (.one [(1, fun _ => .int .i64 rTable1), (1, fun _ => .slice ay0_53 x_33.length cy0_56)] [] (fun _ => .slice none 0 0) rfl rfl .nil))) ?_
      refine Plan.storeP (ps := [(1, fun _ => .int .i64 rTable1), (1, fun _ => .slice ay0_53 x_33.length cy0_56), (1, fun _ => .slice ay0_63 x_41.length cy0_66)]) h68 rfl rfl rfl (.cons 4 rfl (.cons 5 rfl (.cons 6 rfl .nil))) ⟨fun _ _ => rfl, fun _ _ => rfl, fun _ _ => rfl, trivial⟩ FPack.sz25 (EffO.wait rfl) fun w69 h69 => ?_
      simp only [List.cons_append, List.nil_append, List.set_cons_zero, List.set_cons_succ] at h69
      refine Plan.nil ?_
      refine hK7 _ _ ?_; clear hK7
      refine W.ret (finR_ret ?_)
      have h70 := St.pickT (C := [_, _, _, _, _, _, _, _, _, _]) h69 [0, 1, 3, 4, 5, 6, 7, 8, 9, 2] (by decide)
      simp only [pick, List.filterMap_cons, List.filterMap_nil, List.getElem?_cons_zero, List.getElem?_cons_succ, List.cons_append, List.nil_append] at h70
      obtain ⟨L, hL71⟩ : ∃ X, X = [⟨py0_54, 0, cy0_56, fun q => VU .u8 (Fy0_57 q), true⟩] ++ L := ⟨_, rfl⟩
      obtain ⟨LP, hQ71⟩ : ∃ X, X = [⟨py0_54, 0, cy0_56, fun q => VU .u8 (Fy0_57 q), true⟩] ++ LP := ⟨_, rfl⟩
      replace hLP : ∀ r ∈ LP, r ∈ L := by rw [hQ71, hL71]; exact frMemGrow hLP
      have h71 := St.re (N := [_, _, _, _, _, _, _, _, _]) hL71 h70
      simp only [List.cons_append, List.nil_append] at h71
      replace hFr : Fr2 _ _ L LP := hFr.step hL71 hQ71
      obtain ⟨ix72, hv72⟩ : ∃ i, Bx L i arKey2 rKey2.length crKey2 rKey2 := ⟨_, by rw [hL71]; exact hrKey2.app _⟩
      obtain ⟨ix73, hv73⟩ : ∃ i, Bx L i arValue3 rValue3.length crValue3 rValue3 := ⟨_, by rw [hL71]; exact hrValue3.app _⟩
      have hv74 : Bx L 0 ay0_53 x_33.length cy0_56 x_33 := by rw [hL71]; exact (hf58_0.bx 0 rfl)
      have hp74 : ∃ i, Bx LP i ay0_53 x_33.length cy0_56 x_33 := ⟨0, by rw [hQ71]; exact (hf58_0.bx 0 rfl)⟩
      have h75 := St.pickT (C := [_, _, _, _, _, _, _, _, _]) h71 [1, 2, 3, 4, 5, 6, 7, 8, 0] (by decide)
      simp only [pick, List.filterMap_cons, List.filterMap_nil, List.getElem?_cons_zero, List.getElem?_cons_succ, List.cons_append, List.nil_append] at h75
      obtain ⟨L, hL76⟩ : ∃ X, X = [⟨py0_64, 0, cy0_66, fun q => VU .u8 (Fy0_67 q), true⟩] ++ L := ⟨_, rfl⟩
      obtain ⟨LP, hQ76⟩ : ∃ X, X = [⟨py0_64, 0, cy0_66, fun q => VU .u8 (Fy0_67 q), true⟩] ++ LP := ⟨_, rfl⟩
      replace hLP : ∀ r ∈ LP, r ∈ L := by rw [hQ76, hL76]; exact frMemGrow hLP
      have h76 := St.re (N := [_, _, _, _, _, _, _, _]) hL76 h75
      simp only [List.cons_append, List.nil_append] at h76
      replace hFr : Fr2 _ _ L LP := hFr.step hL76 hQ76
      obtain ⟨ix77, hv77⟩ : ∃ i, Bx L i arKey2 rKey2.length crKey2 rKey2 := ⟨_, by rw [hL76]; exact hv72.app _⟩
      obtain ⟨ix78, hv78⟩ : ∃ i, Bx L i arValue3 rValue3.length crValue3 rValue3 := ⟨_, by rw [hL76]; exact hv73.app _⟩
      obtain ⟨ix79, hv79⟩ : ∃ i, Bx L i ay0_53 x_33.length cy0_56 x_33 := ⟨_, by rw [hL76]; exact hv74.app _⟩
      have hp79 : ∃ i, Bx LP i ay0_53 x_33.length cy0_56 x_33 := by rw [hQ76]; exact ⟨_, hp74.choose_spec.app _⟩
      have hv80 : Bx L 0 ay0_63 x_41.length cy0_66 x_41 := by rw [hL76]; exact (hf68_0.bx 0 rfl)
      have hp80 : ∃ i, Bx LP i ay0_63 x_41.length cy0_66 x_41 := ⟨0, by rw [hQ76]; exact (hf68_0.bx 0 rfl)⟩
      obtain ⟨iz81, hz81⟩ : ∃ i, Bx LP i _ _ _ _ := hp79
      obtain ⟨iz82, hz82⟩ : ∃ i, Bx LP i _ _ _ _ := hp80
      have h83 := St.pickT (C := [_, _, _, _, _, _, _, _]) h76 [] (by decide)
      simp only [pick, List.filterMap_cons, List.filterMap_nil, List.getElem?_cons_zero, List.getElem?_cons_succ, List.cons_append, List.nil_append] at h83
      subst r
      refine RetOk.mk (.agg h69 rfl (.cons 4 rfl (.cons 5 rfl (.cons 6 rfl .nil))) FPack.agg25 .nil) ?_
      obtain ⟨CF, hx1, hx2⟩ := hFr
      simp only [List.append_nil] at hx2
      subst hx1
      subst hx2
      exact ⟨_, iz81, ay0_53, cy0_56, iz82, ay0_63, cy0_66, rfl, h83, hz81, hz82⟩
    ·
      refine PlanT.toLine ?_
      refine Plan.buildSlice h50 (ps := [(1, fun i => .slice ((fun i => ([arValue3] : List (Option Addr)).getD i none) i) ((fun i => ([rValue3.length] : List Nat).getD i 0) i) ((fun i => ([crValue3] : List Nat).getD i 0) i))]) FPack.slu61 FPack.sz23 FPack.zv23 (by decide) (by decide) rfl rfl rfl (EffO.mix _ (Filt.drop rfl (Filt.keep rfl Filt.nil)) (PIn.cons 4 rfl PIn.nil)) fun b85 w85 hb85 h85 => ?_
      simp only [rngs, List.cons_append, List.nil_append] at h85
      refine Plan.call (vs := [.slice (some ⟨b50, 0, none⟩) 1 1]) rfl FPack.call88 rfl (wire_Join_ok (by exact (Bss.of 1 rfl rfl (fun i hi => match i, hi with | 0, _ => ⟨_, (hrKey2.app [_, _, _, _, _, _, _, _])⟩ | k + 1, hk => absurd hk (by omega)))) hr32 h85) ?_
      rintro _ w93 ⟨ay0_88, py0_89, ny0_90, cy0_91, Fy0_92, rfl, h93, hf93_0⟩
      obtain rfl := hf93_0.hl
      refine ⟨_, rfl, .inl ⟨PIn.keep (PIn.cons 6 rfl PIn.nil) h93, ?_⟩⟩
      refine Plan.call (vs := [.slice (some ⟨b85, 0, none⟩) 1 1]) rfl FPack.call88 rfl (wire_Join_ok (by exact (Bss.of 1 rfl rfl (fun i hi => match i, hi with | 0, _ => ⟨_, (hrValue3.app [_, _, _, _, _, _, _, _, _])⟩ | k + 1, hk => absurd hk (by omega)))) hr40 h93) ?_
      rintro _ w101 ⟨ay0_96, py0_97, ny0_98, cy0_99, Fy0_100, rfl, h101, hf101_0⟩
      obtain rfl := hf101_0.hl
      refine ⟨_, rfl, .inl ⟨PIn.keep (PIn.cons 7 rfl PIn.nil) h101, ?_⟩⟩
      refine Plan.buildP (ps := [(1, fun _ => .int .i64 rTable1), (1, fun _ => .slice ay0_88 x_33.length cy0_91), (1, fun _ => .slice ay0_96 x_41.length cy0_99)]) FPack.pl25 (by decide) FPack.z25 rfl rfl (.one [] [(1, fun _ => .slice none 0 0), (1, fun _ => .slice none 0 0)] (fun _ => VN 0) rfl rfl (.one [(1, fun _ => .int .i64 rTable1)] [(1, fun _ => .slice none 0 0)] (fun _ => .slice none 0 0) rfl rfl (.one [(1, fun _ => .int .i64 rTable1), (1, fun _ => .slice ay0_88 x_33.length cy0_91)] [] (fun _ => .slice none 0 0) rfl rfl .nil))) ?_
      refine Plan.storeP (ps := [(1, fun _ => .int .i64 rTable1), (1, fun _ => .slice ay0_88 x_33.length cy0_91), (1, fun _ => .slice ay0_96 x_41.length cy0_99)]) h101 rfl rfl rfl (.cons 4 rfl (.cons 5 rfl (.cons 6 rfl .nil))) ⟨fun _ _ => rfl, fun _ _ => rfl, fun _ _ => rfl, trivial⟩ FPack.sz25 (EffO.wait rfl) fun w102 h102 => ?_
      simp only [List.cons_append, List.nil_append, List.set_cons_zero, List.set_cons_succ] at h102
      refine Plan.nil ?_
      refine hK7 _ _ ?_; clear hK7
      refine W.ret (finR_ret ?_)
      have h103 := St.pickT (C := [_, _, _, _, _, _, _, _, _, _]) h102 [0, 2, 3, 4, 5, 6, 7, 8, 9, 1] (by decide)
      simp only [pick, List.filterMap_cons, List.filterMap_nil, List.getElem?_cons_zero, List.getElem?_cons_succ, List.cons_append, List.nil_append] at h103
      obtain ⟨L, hL104⟩ : ∃ X, X = [⟨py0_89, 0, cy0_91, fun q => VU .u8 (Fy0_92 q), true⟩] ++ L := ⟨_, rfl⟩
      obtain ⟨LP, hQ104⟩ : ∃ X, X = [⟨py0_89, 0, cy0_91, fun q => VU .u8 (Fy0_92 q), true⟩] ++ LP := ⟨_, rfl⟩
      replace hLP : ∀ r ∈ LP, r ∈ L := by rw [hQ104, hL104]; exact frMemGrow hLP
      have h104 := St.re (N := [_, _, _, _, _, _, _, _, _]) hL104 h103
      simp only [List.cons_append, List.nil_append] at h104
      replace hFr : Fr2 _ _ L LP := hFr.step hL104 hQ104
      obtain ⟨ix105, hv105⟩ : ∃ i, Bx L i arKey2 rKey2.length crKey2 rKey2 := ⟨_, by rw [hL104]; exact hrKey2.app _⟩
      obtain ⟨ix106, hv106⟩ : ∃ i, Bx L i arValue3 rValue3.length crValue3 rValue3 := ⟨_, by rw [hL104]; exact hrValue3.app _⟩
      have hv107 : Bx L 0 ay0_88 x_33.length cy0_91 x_33 := by rw [hL104]; exact (hf93_0.bx 0 rfl)
      have hp107 : ∃ i, Bx LP i ay0_88 x_33.length cy0_91 x_33 := ⟨0, by rw [hQ104]; exact (hf93_0.bx 0 rfl)⟩
      have h108 := St.pickT (C := [_, _, _, _, _, _, _, _, _]) h104 [1, 2, 3, 4, 5, 6, 7, 8, 0] (by decide)
      simp only [pick, List.filterMap_cons, List.filterMap_nil, List.getElem?_cons_zero, List.getElem?_cons_succ, List.cons_append, List.nil_append] at h108
      obtain ⟨L, hL109⟩ : ∃ X, X = [⟨py0_97, 0, cy0_99, fun q => VU .u8 (Fy0_100 q), true⟩] ++ L := ⟨_, rfl⟩
      obtain ⟨LP, hQ109⟩ : ∃ X, X = [⟨py0_97, 0, cy0_99, fun q => VU .u8 (Fy0_100 q), true⟩] ++ LP := ⟨_, rfl⟩
      replace hLP : ∀ r ∈ LP, r ∈ L := by rw [hQ109, hL109]; exact frMemGrow hLP
      have h109 := St.re (N := [_, _, _, _, _, _, _, _]) hL109 h108
      simp only [List.cons_append, List.nil_append] at h109
      replace hFr : Fr2 _ _ L LP := hFr.step hL109 hQ109
      obtain ⟨ix110, hv110⟩ : ∃ i, Bx L i arKey2 rKey2.length crKey2 rKey2 := ⟨_, by rw [hL109]; exact hv105.app _⟩
      obtain ⟨ix111, hv111⟩ : ∃ i, Bx L i arValue3 rValue3.length crValue3 rValue3 := ⟨_, by rw [hL109]; exact hv106.app _⟩
      obtain ⟨ix112, hv112⟩ : ∃ i, Bx L i ay0_88 x_33.length cy0_91 x_33 := ⟨_, by rw [hL109]; exact hv107.app _⟩
      have hp112 : ∃ i, Bx LP i ay0_88 x_33.length cy0_91 x_33 := by rw [hQ109]; exact ⟨_, hp107.choose_spec.app _⟩
      have hv113 : Bx L 0 ay0_96 x_41.length cy0_99 x_41 := by rw [hL109]; exact (hf101_0.bx 0 rfl)
      have hp113 : ∃ i, Bx LP i ay0_96 x_41.length cy0_99 x_41 := ⟨0, by rw [hQ109]; exact (hf101_0.bx 0 rfl)⟩
      obtain ⟨iz114, hz114⟩ : ∃ i, Bx LP i _ _ _ _ := hp112
      obtain ⟨iz115, hz115⟩ : ∃ i, Bx LP i _ _ _ _ := hp113
      have h116 := St.pickT (C := [_, _, _, _, _, _, _, _]) h109 [] (by decide)
      simp only [pick, List.filterMap_cons, List.filterMap_nil, List.getElem?_cons_zero, List.getElem?_cons_succ, List.cons_append, List.nil_append] at h116
      subst r
      refine RetOk.mk (.agg h102 rfl (.cons 4 rfl (.cons 5 rfl (.cons 6 rfl .nil))) FPack.agg25 .nil) ?_
      obtain ⟨CF, hx1, hx2⟩ := hFr
      simp only [List.append_nil] at hx2
      subst hx1
      subst hx2
      exact ⟨_, iz114, ay0_88, cy0_91, iz115, ay0_96, cy0_99, rfl, h116, hz114, hz115⟩
  ·
    refine PlanT.toLine ?_
    refine Plan.buildSlice h8 (ps := [(1, fun i => .slice ((fun i => ([arValue3] : List (Option Addr)).getD i none) i) ((fun i => ([rValue3.length] : List Nat).getD i 0) i) ((fun i => ([crValue3] : List Nat).getD i 0) i))]) FPack.slu61 FPack.sz23 FPack.zv23 (by decide) (by decide) rfl rfl rfl (EffO.mix _ (Filt.drop rfl (Filt.keep rfl (Filt.keep rfl Filt.nil))) (PIn.cons 4 rfl (PIn.cons 3 rfl PIn.nil))) fun b118 w118 hb118 h118 => ?_
    simp only [rngs, List.cons_append, List.nil_append] at h118
    refine Plan.buildSlice h118 (ps := [(1, fun i => .slice ((fun i => ([arKey2] : List (Option Addr)).getD i none) i) ((fun i => ([rKey2.length] : List Nat).getD i 0) i) ((fun i => ([crKey2] : List Nat).getD i 0) i))]) FPack.slu61 FPack.sz23 FPack.zv23 (by decide) (by decide) rfl rfl rfl (EffO.mix _ (Filt.drop rfl (Filt.keep rfl Filt.nil)) (PIn.cons 4 rfl PIn.nil)) fun b120 w120 hb120 h120 => ?_
    simp only [rngs, List.cons_append, List.nil_append] at h120
    refine Plan.call (vs := [.slice (some ⟨b120, 0, none⟩) 1 1]) rfl FPack.call88 rfl (wire_Join_ok (by exact (Bss.of 0 rfl rfl (fun i hi => match i, hi with | 0, _ => ⟨_, (hrKey2.app [_, _, _, _, _, _, _, _])⟩ | k + 1, hk => absurd hk (by omega)))) hr32 h120) ?_
    rintro _ w128 ⟨ay0_123, py0_124, ny0_125, cy0_126, Fy0_127, rfl, h128, hf128_0⟩
    obtain rfl := hf128_0.hl
    refine ⟨_, rfl, .inl ⟨PIn.keep (PIn.cons 6 rfl PIn.nil) h128, ?_⟩⟩
    refine Plan.call (vs := [.slice (some ⟨b118, 0, none⟩) 1 1]) rfl FPack.call88 rfl (wire_Join_ok (by exact (Bss.of 2 rfl rfl (fun i hi => match i, hi with | 0, _ => ⟨_, (hrValue3.app [_, _, _, _, _, _, _, _, _])⟩ | k + 1, hk => absurd hk (by omega)))) hr40 h128) ?_
    rintro _ w136 ⟨ay0_131, py0_132, ny0_133, cy0_134, Fy0_135, rfl, h136, hf136_0⟩
    obtain rfl := hf136_0.hl
    refine ⟨_, rfl, .inl ⟨PIn.keep (PIn.cons 7 rfl PIn.nil) h136, ?_⟩⟩
    refine Plan.buildP (ps := [(1, fun _ => .int .i64 rTable1), (1, fun _ => .slice ay0_123 x_33.length cy0_126), (1, fun _ => .slice ay0_131 x_41.length cy0_134)]) FPack.pl25 (by decide) FPack.z25 rfl rfl (.one [] [(1, fun _ => .slice none 0 0), (1, fun _ => .slice none 0 0)] (fun _ => VN 0) rfl rfl (.one [(1, fun _ => .int .i64 rTable1)] [(1, fun _ => .slice none 0 0)] (fun _ => .slice none 0 0) rfl rfl (.one [(1, fun _ => .int .i64 rTable1), (1, fun _ => .slice ay0_123 x_33.length cy0_126)] [] (fun _ => .slice none 0 0) rfl rfl .nil))) ?_
    refine Plan.storeP (ps := [(1, fun _ => .int .i64 rTable1), (1, fun _ => .slice ay0_123 x_33.length cy0_126), (1, fun _ => .slice ay0_131 x_41.length cy0_134)]) h136 rfl rfl rfl (.cons 4 rfl (.cons 5 rfl (.cons 6 rfl .nil))) ⟨fun _ _ => rfl, fun _ _ => rfl, fun _ _ => rfl, trivial⟩ FPack.sz25 (EffO.wait rfl) fun w137 h137 => ?_
    simp only [List.cons_append, List.nil_append, List.set_cons_zero, List.set_cons_succ] at h137
    refine Plan.nil ?_
    refine hK7 _ _ ?_; clear hK7
    refine W.ret (finR_ret ?_)
    have h138 := St.pickT (C := [_, _, _, _, _, _, _, _, _, _]) h137 [0, 2, 3, 4, 5, 6, 7, 8, 9, 1] (by decide)
    simp only [pick, List.filterMap_cons, List.filterMap_nil, List.getElem?_cons_zero, List.getElem?_cons_succ, List.cons_append, List.nil_append] at h138
    obtain ⟨L, hL139⟩ : ∃ X, X = [⟨py0_124, 0, cy0_126, fun q => VU .u8 (Fy0_127 q), true⟩] ++ L := ⟨_, rfl⟩
    obtain ⟨LP, hQ139⟩ : ∃ X, X = [⟨py0_124, 0, cy0_126, fun q => VU .u8 (Fy0_127 q), true⟩] ++ LP := ⟨_, rfl⟩
    replace hLP : ∀ r ∈ LP, r ∈ L := by rw [hQ139, hL139]; exact frMemGrow hLP
    have h139 := St.re (N := [_, _, _, _, _, _, _, _, _]) hL139 h138
    simp only [List.cons_append, List.nil_append] at h139
    replace hFr : Fr2 _ _ L LP := hFr.step hL139 hQ139
    obtain ⟨ix140, hv140⟩ : ∃ i, Bx L i arKey2 rKey2.length crKey2 rKey2 := ⟨_, by rw [hL139]; exact hrKey2.app _⟩
    obtain ⟨ix141, hv141⟩ : ∃ i, Bx L i arValue3 rValue3.length crValue3 rValue3 := ⟨_, by rw [hL139]; exact hrValue3.app _⟩
    have hv142 : Bx L 0 ay0_123 x_33.length cy0_126 x_33 := by rw [hL139]; exact (hf128_0.bx 0 rfl)
    have hp142 : ∃ i, Bx LP i ay0_123 x_33.length cy0_126 x_33 := ⟨0, by rw [hQ139]; exact (hf128_0.bx 0 rfl)⟩
    have h143 := St.pickT (C := [_, _, _, _, _, _, _, _, _]) h139 [1, 2, 3, 4, 5, 6, 7, 8, 0] (by decide)
    simp only [pick, List.filterMap_cons, List.filterMap_nil, List.getElem?_cons_zero, List.getElem?_cons_succ, List.cons_append, List.nil_append] at h143
    obtain ⟨L, hL144⟩ : ∃ X, X = [⟨py0_132, 0, cy0_134, fun q => VU .u8 (Fy0_135 q), true⟩] ++ L := ⟨_, rfl⟩
    obtain ⟨LP, hQ144⟩ : ∃ X, X = [⟨py0_132, 0, cy0_134, fun q => VU .u8 (Fy0_135 q), true⟩] ++ LP := ⟨_, rfl⟩
    replace hLP : ∀ r ∈ LP, r ∈ L := by rw [hQ144, hL144]; exact frMemGrow hLP
    have h144 := St.re (N := [_, _, _, _, _, _, _, _]) hL144 h143
    simp only [List.cons_append, List.nil_append] at h144
    replace hFr : Fr2 _ _ L LP := hFr.step hL144 hQ144
    obtain ⟨ix145, hv145⟩ : ∃ i, Bx L i arKey2 rKey2.length crKey2 rKey2 := ⟨_, by rw [hL144]; exact hv140.app _⟩
    obtain ⟨ix146, hv146⟩ : ∃ i, Bx L i arValue3 rValue3.length crValue3 rValue3 := ⟨_, by rw [hL144]; exact hv141.app _⟩
    obtain ⟨ix147, hv147⟩ : ∃ i, Bx L i ay0_123 x_33.length cy0_126 x_33 := ⟨_, by rw [hL144]; exact hv142.app _⟩
    have hp147 : ∃ i, Bx LP i ay0_123 x_33.length cy0_126 x_33 := by rw [hQ144]; exact ⟨_, hp142.choose_spec.app _⟩
    have hv148 : Bx L 0 ay0_131 x_41.length cy0_134 x_41 := by rw [hL144]; exact (hf136_0.bx 0 rfl)
    have hp148 : ∃ i, Bx LP i ay0_131 x_41.length cy0_134 x_41 := ⟨0, by rw [hQ144]; exact (hf136_0.bx 0 rfl)⟩
    obtain ⟨iz149, hz149⟩ : ∃ i, Bx LP i _ _ _ _ := hp147
    obtain ⟨iz150, hz150⟩ : ∃ i, Bx LP i _ _ _ _ := hp148
    have h151 := St.pickT (C := [_, _, _, _, _, _, _, _]) h144 [] (by decide)
    simp only [pick, List.filterMap_cons, List.filterMap_nil, List.getElem?_cons_zero, List.getElem?_cons_succ, List.cons_append, List.nil_append] at h151
    subst r
    refine RetOk.mk (.agg h137 rfl (.cons 4 rfl (.cons 5 rfl (.cons 6 rfl .nil))) FPack.agg25 .nil) ?_
    obtain ⟨CF, hx1, hx2⟩ := hFr
    simp only [List.append_nil] at hx2
    subst hx1
    subst hx2
    exact ⟨_, iz149, ay0_123, cy0_126, iz150, ay0_131, cy0_134, rfl, h151, hz149, hz150⟩


set_option maxRecDepth 8000 in
set_option maxHeartbeats 1000000 in
theorem pack_twins_ok {B : Nat} {w0 w : World} {L : List Rg} {list1 : List (Int × (List Byte) × (List Byte))} {alist1 : Option Addr} {nlist1 clist1 ilist1 : Nat} (hlist1 : LV (D25.at L) L ilist1 alist1 nlist1 clist1 list1) {r : (List (Int × (List Byte) × (List Byte)))} (hR : pack_twins list1 r) (HST : St B w0 (L) w) :
    Calls Try.prog 62 #[.slice alist1 nlist1 clist1] w fun e w' => ∃ C : List Rg, ∃ ay0 : Option Addr, ∃ py0 : Option Nat, ∃ ny0 : Nat, ∃ cy0 : Nat, ∃ Fy0 : Nat → Value, e = .returned (.slice ay0 ny0 cy0) ∧ St B w0 (⟨py0, 0, cy0 * 3, Fy0, true⟩ :: (C ++ L)) w' ∧ LO (D25.at C) [] ay0 py0 ny0 cy0 Fy0 r := by
  refine W.enter 19 Try.func62 rfl rfl rfl ?_
  unfold pack_twins at hR
  obtain ⟨LP, hLPn⟩ : ∃ X, X = ([] : List Rg) := ⟨_, rfl⟩
  have hLP : ∀ r ∈ LP, r ∈ L := by rw [hLPn]; exact fun r hr => nomatch hr
  have hFr : Fr2 L [] L LP := by rw [hLPn]; exact Fr2.refl _ _
  have elist1 := hlist1.hl; subst elist1
  refine W.seq_k fun K2 hK2 => ?_
  refine W.regionT [(0, true)] (by kernel_rfl) ?_
  refine Plan.assign_slice rfl rfl ?_
  refine Plan.nil ?_
  refine hK2 _ _ ?_; clear hK2
  refine W.seq_k fun K3 hK3 => ?_
  refine W.regionT [(0, true)] (by kernel_rfl) ?_
  refine Plan.assign_slice rfl rfl ?_
  refine Plan.nil ?_
  refine hK3 _ _ ?_; clear hK3
  refine W.seq_k fun K4 hK4 => ?_
  refine W.seq_k fun K5 hK5 => ?_
  refine W.regionT [(0, true), (1, true), (2, true)] (by kernel_rfl) ?_
  refine Plan.move_slice rfl rfl ?_
  refine Plan.len FPack.isl22 rfl rfl ?_
  refine Plan.move_int rfl rfl ?_
  refine Plan.nil ?_
  refine hK5 _ _ ?_; clear hK5
  have hFj79 : Fr2 L LP L LP := Fr2.refl _ _
  have h80 : St B w0 (⟨none, 0, 0 * 3, fun _ => undef, true⟩ :: _) _ := HST.nilE (fun _ => undef)
  obtain ⟨out78, hI79, hR079⟩ := hR
  refine W.cutN (fun e w => ∃ y_out78 : List (Int × (List Byte) × (List Byte)), out78 = y_out78 ∧ ∃ CG LG : List Rg, LG = CG ++ L ∧ ∃ QG : List Rg, QG = CG ++ LP ∧ ∃ L : List Rg, L = LG ∧ ∃ LP : List Rg, LP = QG ∧ (∀ r ∈ LP, r ∈ L) ∧ ∃ n_out78 : Nat, ∃ aout78 : Option Addr, ∃ pout78 : Option Nat, ∃ cout78 : Nat, ∃ Fout78 : Nat → Value, EnvHas e [(3, .slice aout78 n_out78 cout78)] ∧ St B w0 (⟨pout78, 0, cout78 * 3, Fout78, true⟩ :: L) w ∧ LO (D25.at LP) [] aout78 pout78 n_out78 cout78 Fout78 y_out78) ?_ ?_
  ·
    refine W.block ?_
    refine W.iter hI79 (fun (s79 : ((List (Int × (List Byte) × (List Byte))) × Nat)) e w => ∃ CG LG : List Rg, LG = CG ++ L ∧ ∃ QG : List Rg, QG = CG ++ LP ∧ ∃ L : List Rg, L = LG ∧ ∃ LP : List Rg, LP = QG ∧ (∀ r ∈ LP, r ∈ L) ∧ ∃ n_out75 : Nat, ∃ aout75 : Option Addr, ∃ pout75 : Option Nat, ∃ cout75 : Nat, ∃ Fout75 : Nat → Value, EnvHas e [(3, .slice aout75 n_out75 cout75), (6, .slice alist1 list1.length clist1), (7, VN list1.length), (8, VN s79.2)] ∧ St B w0 (⟨pout75, 0, cout75 * 3, Fout75, true⟩ :: L) w ∧ LO (D25.at LP) [] aout75 pout75 n_out75 cout75 Fout75 s79.1) ⟨[], L, rfl, LP, rfl, L, rfl, LP, rfl, hLP, 0, none, none, 0, (fun _ => undef), (EnvHas.cons rfl (EnvHas.cons rfl (EnvHas.cons rfl (EnvHas.cons rfl EnvHas.nil)))), h80, LO.nil⟩ ?_
    rintro ⟨out75, t77⟩ o79 hR hx79 ev81 wl81 ⟨CG81, LG81, hlg81, QG81, hqg81, L, hLe81, LP, hQe81, hLPn81, n_out75, aout75, pout75, cout75, Fout75, he81, h81, hout75⟩
    try dsimp only at he81 h81 hout75
    obtain rfl : List.length (α := (Int × (List Byte) × (List Byte))) out75 = n_out75 := hout75.hl
    obtain ⟨ev81, rfl⟩ := he81.open
    unfold pack_twins_l0 at hR
    have hL81 := hLe81.trans hlg81
    have hQ81 := hQe81.trans hqg81
    replace hLP : ∀ r ∈ LP, r ∈ L := by rw [hQ81, hL81]; exact frMemGrow hLP
    replace hFr : Fr2 _ _ L LP := hFr.step hL81 hQ81
    replace hFj79 : Fr2 _ _ L LP := hFj79.step hL81 hQ81
    obtain ⟨ix83, hv83⟩ : ∃ i, LV (D25.at L) L i alist1 list1.length clist1 list1 := ⟨_, by rw [hL81]; exact (LV.grow D25_lifts (fun r hr => List.mem_append_right _ hr) hlist1).app _⟩
    refine W.seq_k fun K84 hK84 => ?_
    refine W.regionT [(0, true)] (by kernel_rfl) ?_
    refine Plan.cmpP (a := (((t77 : Nat) : Int) : Int)) (b := (((list1.length : Nat) : Int) : Int)) (p := t77 < list1.length) rfl rfl rfl rfl icmp_ltN ?_
    refine Plan.nil ?_
    refine hK84 _ _ ?_; clear hK84
    refine W.seq_k fun K85 hK85 => ?_
    by_cases hc86 : t77 < list1.length
    ·
      replace hR := ifT hR hc86
      refine W.condT (congrArg Value.bool (decide_eq_true hc86)) ?_
      refine W.skip ?_
      refine hK85 _ _ ?_; clear hK85
      refine W.seq_k fun K87 hK87 => ?_
      refine W.block ?_
      refine W.seq_k fun K88 hK88 => ?_
      refine W.regionT [(0, true), (1, true), (2, false), (3, false)] (by kernel_rfl) ?_
      obtain ⟨hc89, hR⟩ := hR
      refine Plan.idxLVS (D := (D25.at L)) (j := t77) h81 (hv83.app [_]) FPack.sl22 rfl rfl rfl hc89 ?_
      refine Plan.loadLV (D := (D25.at L)) (X := list1) (j := t77) (sz := 3) h81 ((0 : Int), ([] : List Byte), ([] : List Byte)) (hv83.app [_]) rfl rfl hc89 rfl FPack.agg25 fun b90 r90 hs90 hr90 => ?_
      obtain ⟨⟨i90_1, hv90_1⟩, ⟨i90_2, hv90_2⟩⟩ := hs90
      refine Plan.alloc h81 rfl FPack.z25 (PIn.cons (ix83 + 1) hr90 PIn.nil) fun b91 w91 hb91 h91 => ?_
      simp only [rngs, Nat.zero_add, Nat.reduceAdd, List.cons_append, List.nil_append] at h91
      refine Plan.storeP (ps := [(1, fun _ => .int .i64 ((list1.getD t77 ((0 : Int), ([] : List Byte), ([] : List Byte))).1)), (1, fun _ => .slice ((b90.1).1) (((list1.getD t77 ((0 : Int), ([] : List Byte), ([] : List Byte))).2.1).length) ((b90.1).2)), (1, fun _ => .slice ((b90.2).1) (((list1.getD t77 ((0 : Int), ([] : List Byte), ([] : List Byte))).2.2).length) ((b90.2).2))]) h91 rfl rfl rfl (.cons 0 rfl (.cons 1 rfl (.cons 2 rfl .nil))) ⟨fun _ _ => rfl, fun _ _ => rfl, fun _ _ => rfl, trivial⟩ FPack.sz25 (EffO.wait rfl) fun w92 h92 => ?_
      simp only [List.cons_append, List.nil_append, List.set_cons_zero, List.set_cons_succ] at h92
      refine Plan.nil ?_
      refine hK88 _ _ ?_; clear hK88
      refine W.regionT [(0, true), (1, true), (2, false), (3, false), (4, false), (5, true)] (by kernel_rfl) ?_
      refine Plan.move_slice rfl rfl ?_
      refine Plan.loadA h92 rfl rfl (.cons 0 rfl (.cons 1 rfl (.cons 2 rfl .nil))) FPack.agg25 ?_
      obtain ⟨x_94, x_95, x_96, hr93, hR⟩ := hR
      refine Plan.call (vs := [AG [(1, fun _ => .int .i64 ((list1.getD t77 ((0 : Int), ([] : List Byte), ([] : List Byte))).1)), (1, fun _ => .slice ((b90.1).1) (((list1.getD t77 ((0 : Int), ([] : List Byte), ([] : List Byte))).2.1).length) ((b90.1).2)), (1, fun _ => .slice ((b90.2).1) (((list1.getD t77 ((0 : Int), ([] : List Byte), ([] : List Byte))).2.2).length) ((b90.2).2))]]) rfl FPack.call63 rfl (pack_twin_ok (hv90_1.app [_, _, _, _]) (hv90_2.app [_, _, _, _]) hr93 h92) ?_
      rintro _ w103 ⟨C103, iy0_1_97, ay0_1_98, cy0_1_99, iy0_2_100, ay0_2_101, cy0_2_102, rfl, h103, hf103_0, hf103_1⟩
      try dsimp only at hf103_0 hf103_1
      replace h103 := St.pool (N := []) (R := [_, _, _, _]) h103
      obtain ⟨L, hL104⟩ : ∃ X, X = C103 ++ L := ⟨_, rfl⟩
      obtain ⟨LP, hQ104⟩ : ∃ X, X = C103 ++ LP := ⟨_, rfl⟩
      replace hLP : ∀ r ∈ LP, r ∈ L := by rw [hQ104, hL104]; exact frMemGrow hLP
      have h104 := St.re (N := [_, _, _, _]) hL104 h103
      simp only [List.cons_append, List.nil_append] at h104
      replace hFr : Fr2 _ _ L LP := hFr.step hL104 hQ104
      replace hFj79 : Fr2 _ _ L LP := hFj79.step hL104 hQ104
      obtain ⟨ix105, hv105⟩ : ∃ i, LV (D25.at L) L i alist1 list1.length clist1 list1 := ⟨_, by rw [hL104]; exact (LV.grow D25_lifts (fun r hr => List.mem_append_right _ hr) hv83).app _⟩
      obtain ⟨ix106, hv106⟩ : ∃ i, Bx L i ((b90.1).1) (((list1.getD t77 ((0 : Int), ([] : List Byte), ([] : List Byte))).2.1).length) ((b90.1).2) ((list1.getD t77 ((0 : Int), ([] : List Byte), ([] : List Byte))).2.1) := ⟨_, by rw [hL104]; exact hv90_1.app _⟩
      obtain ⟨ix107, hv107⟩ : ∃ i, Bx L i ((b90.2).1) (((list1.getD t77 ((0 : Int), ([] : List Byte), ([] : List Byte))).2.2).length) ((b90.2).2) ((list1.getD t77 ((0 : Int), ([] : List Byte), ([] : List Byte))).2.2) := ⟨_, by rw [hL104]; exact hv90_2.app _⟩
      have ho108 : LO (D25.at LP) [] aout75 pout75 (out75).length cout75 Fout75 out75 := by rw [hQ104]; exact LO.grow D25_lifts (fun r hr => List.mem_append_right _ hr) hout75
      have hp109 : ∃ i, Bx LP i ay0_1_98 x_95.length cy0_1_99 x_95 := by rw [hQ104]; exact Bx.lift hf103_0 (fun r hr => List.mem_append_left _ hr)
      obtain ⟨ix109, hv109⟩ := Bx.lift hp109.choose_spec hLP
      have hp110 : ∃ i, Bx LP i ay0_2_101 x_96.length cy0_2_102 x_96 := by rw [hQ104]; exact Bx.lift hf103_1 (fun r hr => List.mem_append_left _ hr)
      obtain ⟨ix110, hv110⟩ := Bx.lift hp110.choose_spec hLP
      refine ⟨_, rfl, .inr ⟨rfl, ?_⟩⟩
      refine Plan.buildLO (D := (D25.at LP)) (sz := 3) h104 [(((ay0_1_98, cy0_1_99), (ay0_2_101, cy0_2_102)), ((x_94, x_95, x_96) : (Int × (List Byte) × (List Byte))))] FPack.slu22 FPack.sz25 FPack.zv25 (by decide) (by decide) rfl rfl rfl rfl (by exact (List.forall_mem_cons.2 ⟨⟨hp109, hp110⟩, (fun _ h => nomatch h)⟩)) (EffO.keep PIn.nil) fun b112 w112 F112 hb112 ho112 h112 => ?_
      replace ho112 : LO (D25.at LP) [] (some ⟨b112, 0, none⟩) (some b112) ([(x_94, x_95, x_96)] : List (Int × (List Byte) × (List Byte))).length 1 F112 ([(x_94, x_95, x_96)] : List (Int × (List Byte) × (List Byte))) := ho112.re (fun _ _ h => h)
      obtain ⟨hc114, hR⟩ := hR
      refine Plan.appendLO (D := (D25.at LP)) (X := out75) (Y := ([(x_94, x_95, x_96)] : List (Int × (List Byte) × (List Byte)))) (sz := 3) h112 ((none, 0), (none, 0)) ((0 : Int), ([] : List Byte), ([] : List Byte)) 4 ho108 rfl FPack.el22 rfl FPack.slu22 rfl rfl rfl rfl (LO.lvf EL.at_flat ho112 0 rfl) (fun _ _ h => h) hc114.1 hc114.2 (fun _ => EffO.keep PIn.nil) fun a113 pb113 cap113 F113 w113 ho113 h113 => ?_
      simp only [List.cons_append, List.nil_append, List.set_cons_zero, List.set_cons_succ] at h113
      replace ho113 : LO (D25.at LP) [] a113 pb113 (out75 ++ ([(x_94, x_95, x_96)] : List (Int × (List Byte) × (List Byte)))).length cap113 F113 (out75 ++ ([(x_94, x_95, x_96)] : List (Int × (List Byte) × (List Byte)))) := ho113.re (fun _ _ h => h)
      refine Plan.assign_slice rfl rfl ?_
      refine Plan.nil ?_
      refine blockR_norm ?_
      refine hK87 _ _ ?_; clear hK87
      refine W.regionT [(0, true), (1, true)] (by kernel_rfl) ?_
      obtain ⟨hc115, hR⟩ := hR
      refine Plan.addN (a := t77) (b := 1) rfl rfl rfl (by omega) ?_
      refine Plan.move_int rfl rfl ?_
      refine Plan.nil ?_
      have h116 := St.pickT (C := [_, _, _, _, _]) h113 [4] (by decide)
      simp only [pick, List.filterMap_cons, List.filterMap_nil, List.getElem?_cons_zero, List.getElem?_cons_succ, List.cons_append, List.nil_append] at h116
      obtain ⟨CF117, hx117, hy117⟩ := hFj79
      exact iterR_norm ⟨_, hR, CF117, L, hx117, LP, hy117, L, rfl, LP, rfl, hLP, (out75 ++ ([(x_94, x_95, x_96)] : List (Int × (List Byte) × (List Byte)))).length, a113, pb113, cap113, F113, (EnvHas.cons rfl (EnvHas.cons rfl (EnvHas.cons rfl (EnvHas.cons rfl EnvHas.nil)))), h116, ho113⟩
    ·
      replace hR := ifF hR hc86
      refine W.condF (congrArg Value.bool (decide_eq_false hc86)) ?_
      refine W.exit (thenR_exit (iterR_exit (blockR_here ?_)))
      obtain ⟨CF118, hx118, hy118⟩ := hFj79
      exact ⟨out75, (hx79 _ hR).symm, CF118, L, hx118, LP, hy118, L, rfl, LP, rfl, hLP, out75.length, aout75, pout75, cout75, Fout75, (EnvHas.cons rfl EnvHas.nil), h81, hout75⟩
  ·
    rintro ev119 wl119 ⟨y_out78, hy119, CG119, LG119, hlg119, QG119, hqg119, L, hLe119, LP, hQe119, hLPn119, n_out78, aout78, pout78, cout78, Fout78, he119, h119, hout78⟩
    obtain ⟨ev119, rfl⟩ := he119.open
    subst hy119
    replace hR := hR079
    obtain rfl : List.length (α := (Int × (List Byte) × (List Byte))) out78 = n_out78 := hout78.hl
    have hL119 := hLe119.trans hlg119
    have hQ119 := hQe119.trans hqg119
    replace hLP : ∀ r ∈ LP, r ∈ L := by rw [hQ119, hL119]; exact frMemGrow hLP
    replace hFr : Fr2 _ _ L LP := hFr.step hL119 hQ119
    replace hFj79 : Fr2 _ _ L LP := hFj79.step hL119 hQ119
    refine hK4 _ _ ?_; clear hK4
    refine W.seq_k fun K121 hK121 => ?_
    refine W.regionT [(0, true), (1, true)] (by kernel_rfl) ?_
    refine Plan.move_slice rfl rfl ?_
    refine Plan.assign_slice rfl rfl ?_
    refine Plan.nil ?_
    refine hK121 _ _ ?_; clear hK121
    refine W.ret (finR_ret ?_)
    subst r
    refine RetOk.mk (.tmp_slice rfl .nil) ?_
    obtain ⟨CF, hx1, hx2⟩ := hFr
    simp only [List.append_nil] at hx2
    subst hx1
    subst hx2
    exact ⟨_, aout78, pout78, out78.length, cout78, Fout78, rfl, h119, hout78⟩


set_option maxRecDepth 8000 in
set_option maxHeartbeats 1000000 in
theorem pack_Put_ok {B : Nat} {w0 w : World} {L : List Rg} {list1 : List (Int × (List Byte) × (List Byte))} {alist1 : Option Addr} {nlist1 clist1 ilist1 : Nat} (hlist1 : LV (D25.at L) L ilist1 alist1 nlist1 clist1 list1) {rTable2 : Int} {rKey3 : List Byte} {arKey3 : Option Addr} {nrKey3 crKey3 irKey3 : Nat} (hrKey3 : Bx L irKey3 arKey3 nrKey3 crKey3 rKey3) {rValue4 : List Byte} {arValue4 : Option Addr} {nrValue4 crValue4 irValue4 : Nat} (hrValue4 : Bx L irValue4 arValue4 nrValue4 crValue4 rValue4) {r : ((List (Int × (List Byte) × (List Byte))) × Nat)} (hR : pack_Put list1 rTable2 rKey3 rValue4 r) (HST : St B w0 (L) w) :
    Calls Try.prog 19 #[.slice alist1 nlist1 clist1, AG [(1, fun _ => .int .i64 rTable2), (1, fun _ => .slice arKey3 nrKey3 crKey3), (1, fun _ => .slice arValue4 nrValue4 crValue4)]] w fun e w' => ∃ C : List Rg, ∃ ay0 : Option Addr, ∃ py0 : Option Nat, ∃ ny0 : Nat, ∃ cy0 : Nat, ∃ Fy0 : Nat → Value, e = .returned (.tuple #[.slice ay0 ny0 cy0, VN r.2]) ∧ St B w0 (⟨py0, 0, cy0 * 3, Fy0, true⟩ :: (C ++ L)) w' ∧ LO (D25.at C) [] ay0 py0 ny0 cy0 Fy0 r.1 := by
  refine W.enter 46 Try.func19 rfl rfl rfl ?_
  unfold pack_Put at hR
  obtain ⟨LP, hLPn⟩ : ∃ X, X = ([] : List Rg) := ⟨_, rfl⟩
  have hLP : ∀ r ∈ LP, r ∈ L := by rw [hLPn]; exact fun r hr => nomatch hr
  have hFr : Fr2 L [] L LP := by rw [hLPn]; exact Fr2.refl _ _
  have elist1 := hlist1.hl; subst elist1
  have erKey3 := hrKey3.hl; subst erKey3
  have erValue4 := hrValue4.hl; subst erValue4
  refine W.seq_k fun K5 hK5 => ?_
  refine W.regionT [(0, false), (1, true), (2, true)] (by kernel_rfl) ?_
  refine Plan.boxA HST rfl rfl PIn.nil fun b6 w6 hb6 h6 => ?_
  simp only [rngs, Nat.zero_add, Nat.reduceAdd, List.cons_append, List.nil_append] at h6
  refine Plan.assign_slice rfl rfl ?_
  refine Plan.assign_int rfl rfl ?_
  refine Plan.nil ?_
  refine hK5 _ _ ?_; clear hK5
  refine W.seq_k fun K7 hK7 => ?_
  refine W.seq_k fun K8 hK8 => ?_
  refine W.regionT [(0, true), (1, false), (2, true)] (by kernel_rfl) ?_
  refine Plan.loadA h6 rfl rfl (.cons 0 rfl (.cons 1 rfl (.cons 2 rfl .nil))) FPack.agg25 ?_
  obtain ⟨x_10, hr9, hR⟩ := hR
  refine Plan.call (vs := [AG [(1, fun _ => .int .i64 rTable2), (1, fun _ => .slice arKey3 rKey3.length crKey3), (1, fun _ => .slice arValue4 rValue4.length crValue4)]]) rfl FPack.call59 rfl (pack_Check_ok (hrKey3.app [_, _, _]) (hrValue4.app [_, _, _]) hr9 h6) ?_
  rintro _ w11 ⟨rfl, h11⟩
  refine ⟨_, rfl, .inr ⟨rfl, ?_⟩⟩
  refine Plan.assign_int rfl rfl ?_
  refine Plan.nil ?_
  refine hK8 _ _ ?_; clear hK8
  refine W.seq_k fun K12 hK12 => ?_
  refine W.regionT [(0, true), (1, true)] (by kernel_rfl) ?_
  refine Plan.move_int rfl rfl ?_
  refine Plan.cmpP (a := (((x_10 : Nat) : Int) : Int)) (b := (0 : Int)) (p := x_10 ≠ 0) rfl rfl rfl rfl icmp_neN ?_
  refine Plan.nil ?_
  refine hK12 _ _ ?_; clear hK12
  by_cases hc13 : x_10 ≠ 0
  ·
    replace hR := ifT hR hc13
    refine W.condT (congrArg Value.bool (decide_eq_true hc13)) ?_
    refine W.seq_k fun K14 hK14 => ?_
    refine W.regionT [(0, true), (1, true), (2, true)] (by kernel_rfl) ?_
    refine Plan.move_int rfl rfl ?_
    refine Plan.assign_slice rfl rfl ?_
    refine Plan.assign_int rfl rfl ?_
    refine Plan.nil ?_
    refine hK14 _ _ ?_; clear hK14
    refine W.ret (thenR_ret (finR_ret ?_))
    have h15 : St B w0 (⟨none, 0, 0 * 3, fun _ => undef, true⟩ :: _) _ := h11.nilE (fun _ => undef)
    have h16 := St.pickT (C := [_, _, _, _]) h15 [0] (by decide)
    simp only [pick, List.filterMap_cons, List.filterMap_nil, List.getElem?_cons_zero, List.getElem?_cons_succ, List.cons_append, List.nil_append] at h16
    subst r
    refine RetOk.mk (.tmp_slice rfl (.tmp_int rfl .nil)) ?_
    subst hLPn
    exact ⟨[], none, none, 0, 0, (fun _ => undef), rfl, h16, LO.nil⟩
  ·
    replace hR := ifF hR hc13
    refine W.condF (congrArg Value.bool (decide_eq_false hc13)) ?_
    refine W.skip ?_
    refine hK7 _ _ ?_; clear hK7
    refine W.seq_k fun K17 hK17 => ?_
    refine W.seq_k fun K18 hK18 => ?_
    refine W.regionT [(0, true), (1, false), (2, true)] (by kernel_rfl) ?_
    refine Plan.move_slice rfl rfl ?_
    obtain ⟨x_20, hr19, hR⟩ := hR
    refine Plan.call (vs := [.slice alist1 list1.length clist1]) rfl FPack.call60 rfl (pack_sorted_ok (by exact (LV.grow D25_lifts (fun r hr => List.mem_append_right [_, _, _] ((fun _ h => h) r hr)) (hlist1.app [_, _, _]))) hr19 h11) ?_
    rintro _ w21 ⟨rfl, h21⟩
    refine ⟨_, rfl, .inl ⟨PIn.keep PIn.nil h21, ?_⟩⟩
    refine Plan.assign_int rfl rfl ?_
    refine Plan.nil ?_
    refine hK18 _ _ ?_; clear hK18
    refine W.seq_k fun K22 hK22 => ?_
    refine W.regionT [(0, true), (1, true)] (by kernel_rfl) ?_
    refine Plan.move_int rfl rfl ?_
    refine Plan.cmpP (a := (((x_20 : Nat) : Int) : Int)) (b := (0 : Int)) (p := x_20 ≠ 0) rfl rfl rfl rfl icmp_neN ?_
    refine Plan.nil ?_
    refine hK22 _ _ ?_; clear hK22
    by_cases hc23 : x_20 ≠ 0
    ·
      replace hR := ifT hR hc23
      refine W.condT (congrArg Value.bool (decide_eq_true hc23)) ?_
      refine W.seq_k fun K24 hK24 => ?_
      refine W.regionT [(0, true), (1, true), (2, true)] (by kernel_rfl) ?_
      refine Plan.move_int rfl rfl ?_
      refine Plan.assign_slice rfl rfl ?_
      refine Plan.assign_int rfl rfl ?_
      refine Plan.nil ?_
      refine hK24 _ _ ?_; clear hK24
      refine W.ret (thenR_ret (finR_ret ?_))
      have h25 : St B w0 (⟨none, 0, 0 * 3, fun _ => undef, true⟩ :: _) _ := h21.nilE (fun _ => undef)
      have h26 := St.pickT (C := [_, _, _, _]) h25 [0] (by decide)
      simp only [pick, List.filterMap_cons, List.filterMap_nil, List.getElem?_cons_zero, List.getElem?_cons_succ, List.cons_append, List.nil_append] at h26
      subst r
      refine RetOk.mk (.tmp_slice rfl (.tmp_int rfl .nil)) ?_
      subst hLPn
      exact ⟨[], none, none, 0, 0, (fun _ => undef), rfl, h26, LO.nil⟩
    ·
      replace hR := ifF hR hc23
      refine W.condF (congrArg Value.bool (decide_eq_false hc23)) ?_
      refine W.skip ?_
      refine hK17 _ _ ?_; clear hK17
      refine W.seq_k fun K27 hK27 => ?_
      refine W.regionT [(0, true), (1, true), (2, false), (3, true), (4, true), (5, true), (6, true), (7, true)] (by kernel_rfl) ?_
      refine Plan.move_slice rfl rfl ?_
      refine Plan.loadA h21 rfl rfl (.cons 0 rfl (.cons 1 rfl (.cons 2 rfl .nil))) FPack.agg25 ?_
      obtain ⟨x_29, x_30, hr28, hR⟩ := hR
      refine Plan.call (vs := [.slice alist1 list1.length clist1, AG [(1, fun _ => .int .i64 rTable2), (1, fun _ => .slice arKey3 rKey3.length crKey3), (1, fun _ => .slice arValue4 rValue4.length crValue4)]]) rfl FPack.call61 rfl (pack_place_ok (by exact (LV.grow D25_lifts (fun r hr => List.mem_append_right [_, _, _] ((fun _ h => h) r hr)) (hlist1.app [_, _, _]))) (hrKey3.app [_, _, _]) (hrValue4.app [_, _, _]) hr28 h21) ?_
      rintro _ w31 ⟨rfl, h31⟩
      refine ⟨_, rfl, .inr ⟨rfl, ?_⟩⟩
      refine Plan.move_tuple rfl rfl ?_
      refine Plan.extract_int rfl rfl rfl ?_
      refine Plan.extract_bool rfl rfl rfl ?_
      refine Plan.assign_int rfl rfl ?_
      refine Plan.assign_bool rfl rfl ?_
      refine Plan.nil ?_
      refine hK27 _ _ ?_; clear hK27
      refine W.seq_k fun K32 hK32 => ?_
      refine W.regionT [(0, true), (1, true), (2, true), (3, true)] (by kernel_rfl) ?_
      refine Plan.move_slice rfl rfl ?_
      refine Plan.move_int rfl rfl ?_
      obtain ⟨hc33, hR⟩ := hR
      refine Plan.slLV (D := (D25.at L)) (sz := 3) (lo := x_29) (hi := list1.length) hlist1 rfl FPack.sl22 rfl rfl ⟨_, rfl⟩ rfl hc33 fun a34 c34 hv34 => ?_
      refine Plan.assign_slice rfl rfl ?_
      refine Plan.nil ?_
      refine hK32 _ _ ?_; clear hK32
      refine W.seq_k fun K35 hK35 => ?_
      obtain ⟨behind41, hX42, hR042⟩ := hR
      refine W.cutN (fun e w => ∃ y_behind41 : List (Int × (List Byte) × (List Byte)), (behind41 = y_behind41) ∧ ∃ ibehind41 : Nat, ∃ abehind41 : Option Addr, ∃ cbehind41 : Nat, EnvHas e [(0, .slice alist1 list1.length clist1), (3, .pointer (some ⟨b6, 0, none⟩)), (8, VN x_29), (10, .slice abehind41 y_behind41.length cbehind41)] ∧ St B w0 (⟨some b6, 0, 1, fun _ => .int .i64 rTable2, true⟩ :: ⟨some b6, 1, 1, fun _ => .slice arKey3 rKey3.length crKey3, true⟩ :: ⟨some b6, 2, 1, fun _ => .slice arValue4 rValue4.length crValue4, true⟩ :: L) w ∧ LV (D25.at L) L ibehind41 abehind41 y_behind41.length cbehind41 y_behind41) ?_ ?_
      ·
        replace hR := hX42
        refine W.seq_k fun K43 hK43 => ?_
        refine W.regionT [(0, true)] (by kernel_rfl) ?_
        refine Plan.move_bool rfl rfl ?_
        refine Plan.nil ?_
        refine hK43 _ _ ?_; clear hK43
        by_cases hc44 : x_30 = true
        ·
          replace hR := ifT hR hc44
          refine W.condT (congrArg Value.bool hc44) ?_
          refine W.regionT [(0, true), (1, true), (2, true), (3, true), (4, true)] (by kernel_rfl) ?_
          refine Plan.move_slice rfl rfl ?_
          refine Plan.move_int rfl rfl ?_
          obtain ⟨hc45, hR⟩ := hR
          refine Plan.addN (a := x_29) (b := 1) rfl rfl rfl (by omega) ?_
          obtain ⟨hc46, hR⟩ := hR
          refine Plan.slLV (D := (D25.at L)) (sz := 3) (lo := (x_29 + 1)) (hi := list1.length) hlist1 rfl FPack.sl22 rfl rfl ⟨_, rfl⟩ rfl hc46 fun a47 c47 hv47 => ?_
          refine Plan.assign_slice rfl rfl ?_
          refine Plan.nil ?_
          exact ⟨(sgl list1 (x_29 + 1) list1.length), hR, ilist1, a47, c47, (EnvHas.cons rfl (EnvHas.cons rfl (EnvHas.cons rfl (EnvHas.cons rfl EnvHas.nil)))), h31, hv47⟩
        ·
          replace hR := ifF hR hc44
          refine W.condF (congrArg Value.bool (Bool.eq_false_iff.2 hc44)) ?_
          refine W.skip ?_
          exact ⟨(sgl list1 x_29 list1.length), hR, ilist1, a34, c34, (EnvHas.cons rfl (EnvHas.cons rfl (EnvHas.cons rfl (EnvHas.cons rfl EnvHas.nil)))), h31, hv34⟩
      ·
        rintro ev48 wl48 ⟨y_behind41, hy48_0, ibehind41, abehind41, cbehind41, he48, h48, hbehind41⟩
        subst hy48_0
        obtain ⟨ev48, rfl⟩ := he48.open
        replace hR := hR042
        refine hK35 _ _ ?_; clear hK35
        refine W.seq_k fun K49 hK49 => ?_
        refine W.regionD FPack.mixed [(0, true), (1, true), (2, true), (4, true), (8, true), (3, false), (5, false), (6, false), (7, false), (9, false), (10, false), (11, true), (12, true)] (by kernel_rfl) ?_
        have h50 := h48.drew
        refine Plan.move_slice rfl rfl ?_
        refine Plan.move_int rfl rfl ?_
        obtain ⟨hc51, hR⟩ := hR
        refine Plan.slLV (D := (D25.at L)) (sz := 3) (lo := 0) (hi := x_29) hlist1 rfl FPack.sl22 rfl rfl rfl ⟨_, rfl⟩ hc51 fun a52 c52 hv52 => ?_
        refine Plan.loadA h50 rfl rfl (.cons 0 rfl (.cons 1 rfl (.cons 2 rfl .nil))) FPack.agg25 ?_
        refine Plan.move_slice rfl rfl ?_
        obtain ⟨x_54, hr53, hR⟩ := hR
        refine Plan.call (vs := [.slice a52 ((sgl list1 0 x_29).length) c52]) rfl FPack.call62 rfl (pack_twins_ok (by exact (LV.grow D25_lifts (fun r hr => List.mem_append_right [_, _, _] ((fun _ h => h) r hr)) (hv52.app [_, _, _]))) hr53 h50) ?_
        rintro _ w60 ⟨C60, ay0_55, py0_56, ny0_57, cy0_58, Fy0_59, rfl, h60, hf60_0⟩
        replace h60 := St.pool (N := [_]) (R := [_, _, _]) h60
        obtain ⟨L, hL61⟩ : ∃ X, X = C60 ++ L := ⟨_, rfl⟩
        obtain ⟨LP, hQ61⟩ : ∃ X, X = C60 ++ LP := ⟨_, rfl⟩
        replace hLP : ∀ r ∈ LP, r ∈ L := by rw [hQ61, hL61]; exact frMemGrow hLP
        have h61 := St.re (N := [_, _, _, _]) hL61 h60
        simp only [List.cons_append, List.nil_append] at h61
        replace hFr : Fr2 _ _ L LP := hFr.step hL61 hQ61
        obtain ⟨ix62, hv62⟩ : ∃ i, LV (D25.at L) L i alist1 list1.length clist1 list1 := ⟨_, by rw [hL61]; exact (LV.grow D25_lifts (fun r hr => List.mem_append_right _ hr) hlist1).app _⟩
        obtain ⟨ix63, hv63⟩ : ∃ i, LV (D25.at L) L i abehind41 behind41.length cbehind41 behind41 := ⟨_, by rw [hL61]; exact (LV.grow D25_lifts (fun r hr => List.mem_append_right _ hr) hbehind41).app _⟩
        obtain ⟨ix64, hv64⟩ : ∃ i, LV (D25.at L) L i a52 ((sgl list1 0 x_29).length) c52 (sgl list1 0 x_29) := ⟨_, by rw [hL61]; exact (LV.grow D25_lifts (fun r hr => List.mem_append_right _ hr) hv52).app _⟩
        obtain ⟨ix65, hv65⟩ : ∃ i, Bx L i arKey3 rKey3.length crKey3 rKey3 := ⟨_, by rw [hL61]; exact hrKey3.app _⟩
        obtain ⟨ix66, hv66⟩ : ∃ i, Bx L i arValue4 rValue4.length crValue4 rValue4 := ⟨_, by rw [hL61]; exact hrValue4.app _⟩
        obtain rfl := hf60_0.hl
        have hd60_0 : LO (D25.at LP) [] ay0_55 py0_56 (x_54).length cy0_58 Fy0_59 x_54 := LO.grow D25_lifts (fun r hr => (by rw [hQ61]; exact List.mem_append_left _ hr)) hf60_0
        refine ⟨_, rfl, .inl ⟨PIn.keep (PIn.parts (.cons 1 rfl (.cons 2 rfl (.cons 3 rfl .nil))) PIn.nil) h61, ?_⟩⟩
        obtain ⟨x_68, x_69, x_70, hr67, hR⟩ := hR
        refine Plan.call (vs := [AG [(1, fun _ => .int .i64 rTable2), (1, fun _ => .slice arKey3 rKey3.length crKey3), (1, fun _ => .slice arValue4 rValue4.length crValue4)]]) rfl FPack.call63 rfl (pack_twin_ok (hv65.app [_, _, _, _]) (hv66.app [_, _, _, _]) hr67 h61) ?_
        rintro _ w77 ⟨C77, iy0_1_71, ay0_1_72, cy0_1_73, iy0_2_74, ay0_2_75, cy0_2_76, rfl, h77, hf77_0, hf77_1⟩
        try dsimp only at hf77_0 hf77_1
        replace h77 := St.pool (N := []) (R := [_, _, _, _]) h77
        obtain ⟨L, hL78⟩ : ∃ X, X = C77 ++ L := ⟨_, rfl⟩
        obtain ⟨LP, hQ78⟩ : ∃ X, X = C77 ++ LP := ⟨_, rfl⟩
        replace hLP : ∀ r ∈ LP, r ∈ L := by rw [hQ78, hL78]; exact frMemGrow hLP
        have h78 := St.re (N := [_, _, _, _]) hL78 h77
        simp only [List.cons_append, List.nil_append] at h78
        replace hFr : Fr2 _ _ L LP := hFr.step hL78 hQ78
        obtain ⟨ix79, hv79⟩ : ∃ i, LV (D25.at L) L i alist1 list1.length clist1 list1 := ⟨_, by rw [hL78]; exact (LV.grow D25_lifts (fun r hr => List.mem_append_right _ hr) hv62).app _⟩
        obtain ⟨ix80, hv80⟩ : ∃ i, LV (D25.at L) L i abehind41 behind41.length cbehind41 behind41 := ⟨_, by rw [hL78]; exact (LV.grow D25_lifts (fun r hr => List.mem_append_right _ hr) hv63).app _⟩
        obtain ⟨ix81, hv81⟩ : ∃ i, LV (D25.at L) L i a52 ((sgl list1 0 x_29).length) c52 (sgl list1 0 x_29) := ⟨_, by rw [hL78]; exact (LV.grow D25_lifts (fun r hr => List.mem_append_right _ hr) hv64).app _⟩
        obtain ⟨ix82, hv82⟩ : ∃ i, Bx L i arKey3 rKey3.length crKey3 rKey3 := ⟨_, by rw [hL78]; exact hv65.app _⟩
        obtain ⟨ix83, hv83⟩ : ∃ i, Bx L i arValue4 rValue4.length crValue4 rValue4 := ⟨_, by rw [hL78]; exact hv66.app _⟩
        have ho84 : LO (D25.at LP) [] ay0_55 py0_56 (x_54).length cy0_58 Fy0_59 x_54 := by rw [hQ78]; exact LO.grow D25_lifts (fun r hr => List.mem_append_right _ hr) hd60_0
        have hp85 : ∃ i, Bx LP i ay0_1_72 x_69.length cy0_1_73 x_69 := by rw [hQ78]; exact Bx.lift hf77_0 (fun r hr => List.mem_append_left _ hr)
        obtain ⟨ix85, hv85⟩ := Bx.lift hp85.choose_spec hLP
        have hp86 : ∃ i, Bx LP i ay0_2_75 x_70.length cy0_2_76 x_70 := by rw [hQ78]; exact Bx.lift hf77_1 (fun r hr => List.mem_append_left _ hr)
        obtain ⟨ix86, hv86⟩ := Bx.lift hp86.choose_spec hLP
        refine ⟨_, rfl, .inr ⟨rfl, ?_⟩⟩
        refine Plan.buildLO (D := (D25.at LP)) (sz := 3) h78 [(((ay0_1_72, cy0_1_73), (ay0_2_75, cy0_2_76)), ((x_68, x_69, x_70) : (Int × (List Byte) × (List Byte))))] FPack.slu22 FPack.sz25 FPack.zv25 (by decide) (by decide) rfl rfl rfl rfl (by exact (List.forall_mem_cons.2 ⟨⟨hp85, hp86⟩, (fun _ h => nomatch h)⟩)) (EffO.keep PIn.nil) fun b88 w88 F88 hb88 ho88 h88 => ?_
        replace ho88 : LO (D25.at LP) [] (some ⟨b88, 0, none⟩) (some b88) ([(x_68, x_69, x_70)] : List (Int × (List Byte) × (List Byte))).length 1 F88 ([(x_68, x_69, x_70)] : List (Int × (List Byte) × (List Byte))) := ho88.re (fun _ _ h => h)
        obtain ⟨hc90, hR⟩ := hR
        refine Plan.appendLO (D := (D25.at LP)) (X := x_54) (Y := ([(x_68, x_69, x_70)] : List (Int × (List Byte) × (List Byte)))) (sz := 3) h88 ((none, 0), (none, 0)) ((0 : Int), ([] : List Byte), ([] : List Byte)) 1 ho84 rfl FPack.el22 rfl FPack.slu22 rfl rfl rfl rfl (LO.lvf EL.at_flat ho88 0 rfl) (fun _ _ h => h) hc90.1 hc90.2 (fun _ => EffO.keep PIn.nil) fun a89 pb89 cap89 F89 w89 ho89 h89 => ?_
        simp only [List.cons_append, List.nil_append, List.set_cons_zero, List.set_cons_succ] at h89
        replace ho89 : LO (D25.at LP) [] a89 pb89 (x_54 ++ ([(x_68, x_69, x_70)] : List (Int × (List Byte) × (List Byte)))).length cap89 F89 (x_54 ++ ([(x_68, x_69, x_70)] : List (Int × (List Byte) × (List Byte)))) := ho89.re (fun _ _ h => h)
        obtain ⟨x_92, hr91, hR⟩ := hR
        refine Plan.call (vs := [.slice abehind41 behind41.length cbehind41]) rfl FPack.call62 rfl (pack_twins_ok (by exact (LV.grow D25_lifts (fun r hr => List.mem_append_right [_, _, _, _, _] ((fun _ h => h) r hr)) (hv80.app [_, _, _, _, _]))) hr91 h89) ?_
        rintro _ w98 ⟨C98, ay0_93, py0_94, ny0_95, cy0_96, Fy0_97, rfl, h98, hf98_0⟩
        replace h98 := St.pool (N := [_]) (R := [_, _, _, _, _]) h98
        obtain ⟨L, hL99⟩ : ∃ X, X = C98 ++ L := ⟨_, rfl⟩
        obtain ⟨LP, hQ99⟩ : ∃ X, X = C98 ++ LP := ⟨_, rfl⟩
        replace hLP : ∀ r ∈ LP, r ∈ L := by rw [hQ99, hL99]; exact frMemGrow hLP
        have h99 := St.re (N := [_, _, _, _, _, _]) hL99 h98
        simp only [List.cons_append, List.nil_append] at h99
        replace hFr : Fr2 _ _ L LP := hFr.step hL99 hQ99
        obtain ⟨ix100, hv100⟩ : ∃ i, LV (D25.at L) L i alist1 list1.length clist1 list1 := ⟨_, by rw [hL99]; exact (LV.grow D25_lifts (fun r hr => List.mem_append_right _ hr) hv79).app _⟩
        obtain ⟨ix101, hv101⟩ : ∃ i, LV (D25.at L) L i abehind41 behind41.length cbehind41 behind41 := ⟨_, by rw [hL99]; exact (LV.grow D25_lifts (fun r hr => List.mem_append_right _ hr) hv80).app _⟩
        obtain ⟨ix102, hv102⟩ : ∃ i, LV (D25.at L) L i a52 ((sgl list1 0 x_29).length) c52 (sgl list1 0 x_29) := ⟨_, by rw [hL99]; exact (LV.grow D25_lifts (fun r hr => List.mem_append_right _ hr) hv81).app _⟩
        obtain ⟨ix103, hv103⟩ : ∃ i, Bx L i arKey3 rKey3.length crKey3 rKey3 := ⟨_, by rw [hL99]; exact hv82.app _⟩
        obtain ⟨ix104, hv104⟩ : ∃ i, Bx L i arValue4 rValue4.length crValue4 rValue4 := ⟨_, by rw [hL99]; exact hv83.app _⟩
        obtain ⟨ix105, hv105⟩ : ∃ i, Bx L i ay0_1_72 x_69.length cy0_1_73 x_69 := ⟨_, by rw [hL99]; exact hv85.app _⟩
        have hp105 : ∃ i, Bx LP i ay0_1_72 x_69.length cy0_1_73 x_69 := by rw [hQ99]; exact ⟨_, hp85.choose_spec.app _⟩
        obtain ⟨ix106, hv106⟩ : ∃ i, Bx L i ay0_2_75 x_70.length cy0_2_76 x_70 := ⟨_, by rw [hL99]; exact hv86.app _⟩
        have hp106 : ∃ i, Bx LP i ay0_2_75 x_70.length cy0_2_76 x_70 := by rw [hQ99]; exact ⟨_, hp86.choose_spec.app _⟩
        have ho107 : LO (D25.at LP) [] (some ⟨b88, 0, none⟩) (some b88) (([(x_68, x_69, x_70)] : List (Int × (List Byte) × (List Byte)))).length 1 F88 ([(x_68, x_69, x_70)] : List (Int × (List Byte) × (List Byte))) := by rw [hQ99]; exact LO.grow D25_lifts (fun r hr => List.mem_append_right _ hr) ho88
        have ho108 : LO (D25.at LP) [] a89 pb89 ((x_54 ++ ([(x_68, x_69, x_70)] : List (Int × (List Byte) × (List Byte))))).length cap89 F89 (x_54 ++ ([(x_68, x_69, x_70)] : List (Int × (List Byte) × (List Byte)))) := by rw [hQ99]; exact LO.grow D25_lifts (fun r hr => List.mem_append_right _ hr) ho89
        obtain rfl := hf98_0.hl
        have hd98_0 : LO (D25.at LP) [] ay0_93 py0_94 (x_92).length cy0_96 Fy0_97 x_92 := LO.grow D25_lifts (fun r hr => (by rw [hQ99]; exact List.mem_append_left _ hr)) hf98_0
        refine ⟨_, rfl, .inl ⟨PIn.keep PIn.nil h99, ?_⟩⟩
        obtain ⟨hc110, hR⟩ := hR
        refine Plan.appendLO (D := (D25.at LP)) (X := (x_54 ++ ([(x_68, x_69, x_70)] : List (Int × (List Byte) × (List Byte))))) (Y := x_92) (sz := 3) h99 ((none, 0), (none, 0)) ((0 : Int), ([] : List Byte), ([] : List Byte)) 2 ho108 rfl FPack.el22 rfl FPack.slu22 rfl rfl rfl rfl (LO.lvf EL.at_flat hd98_0 0 rfl) (fun _ _ h => h) hc110.1 hc110.2 (fun _ => EffO.keep PIn.nil) fun a109 pb109 cap109 F109 w109 ho109 h109 => ?_
        simp only [List.cons_append, List.nil_append, List.set_cons_zero, List.set_cons_succ] at h109
        replace ho109 : LO (D25.at LP) [] a109 pb109 ((x_54 ++ ([(x_68, x_69, x_70)] : List (Int × (List Byte) × (List Byte)))) ++ x_92).length cap109 F109 ((x_54 ++ ([(x_68, x_69, x_70)] : List (Int × (List Byte) × (List Byte)))) ++ x_92) := ho109.re (fun _ _ h => h)
        refine Plan.assign_slice rfl rfl ?_
        refine Plan.assign_int rfl rfl ?_
        refine Plan.nil ?_
        refine hK49 _ _ ?_; clear hK49
        refine W.ret (finR_ret ?_)
        have h111 := St.pickT (C := [_, _, _, _, _, _]) h109 [2] (by decide)
        simp only [pick, List.filterMap_cons, List.filterMap_nil, List.getElem?_cons_zero, List.getElem?_cons_succ, List.cons_append, List.nil_append] at h111
        subst r
        refine RetOk.mk (.tmp_slice rfl (.tmp_int rfl .nil)) ?_
        obtain ⟨CF, hx1, hx2⟩ := hFr
        simp only [List.append_nil] at hx2
        subst hx1
        subst hx2
        exact ⟨_, a109, pb109, ((x_54 ++ ([(x_68, x_69, x_70)] : List (Int × (List Byte) × (List Byte)))) ++ x_92).length, cap109, F109, rfl, h111, ho109⟩


set_option maxRecDepth 8000 in
set_option maxHeartbeats 1000000 in
theorem pack_Find_ok {B : Nat} {w0 w : World} {L : List Rg} {list1 : List (Int × (List Byte) × (List Byte))} {alist1 : Option Addr} {nlist1 clist1 ilist1 : Nat} (hlist1 : LV (D25.at L) L ilist1 alist1 nlist1 clist1 list1) {table2 : Int} {key3 : List Byte} {akey3 : Option Addr} {nkey3 ckey3 ikey3 : Nat} (hkey3 : Bx L ikey3 akey3 nkey3 ckey3 key3) {r : (Nat × Bool)} (hR : pack_Find list1 table2 key3 r) (HST : St B w0 (L) w) :
    Calls Try.prog 20 #[.slice alist1 nlist1 clist1, .int .i64 table2, .slice akey3 nkey3 ckey3] w fun e w' => e = .returned (.tuple #[VN r.1, .bool r.2]) ∧ St B w0 (L) w' := by
  refine W.enter 18 Try.func20 rfl rfl rfl ?_
  unfold pack_Find at hR
  have elist1 := hlist1.hl; subst elist1
  have ekey3 := hkey3.hl; subst ekey3
  refine W.seq_k fun K4 hK4 => ?_
  refine W.regionT [(0, true), (1, true)] (by kernel_rfl) ?_
  refine Plan.assign_int rfl rfl ?_
  refine Plan.assign_bool rfl rfl ?_
  refine Plan.nil ?_
  refine hK4 _ _ ?_; clear hK4
  refine W.seq_k fun K5 hK5 => ?_
  refine W.seq_k fun K6 hK6 => ?_
  refine W.regionT [(0, true), (1, false), (2, true)] (by kernel_rfl) ?_
  refine Plan.move_slice rfl rfl ?_
  obtain ⟨x_8, hr7, hR⟩ := hR
  refine Plan.call (vs := [.slice alist1 list1.length clist1]) rfl FPack.call60 rfl (pack_sorted_ok (by exact (LV.grow D25_lifts (fun r hr => List.mem_append_right [] ((fun _ h => h) r hr)) hlist1)) hr7 HST) ?_
  rintro _ w9 ⟨rfl, h9⟩
  refine ⟨_, rfl, .inl ⟨PIn.keep PIn.nil h9, ?_⟩⟩
  refine Plan.cmpP (a := (((x_8 : Nat) : Int) : Int)) (b := (0 : Int)) (p := x_8 ≠ 0) rfl rfl rfl rfl icmp_neN ?_
  refine Plan.nil ?_
  refine hK6 _ _ ?_; clear hK6
  by_cases hc10 : x_8 ≠ 0
  ·
    replace hR := ifT hR hc10
    refine W.condT (congrArg Value.bool (decide_eq_true hc10)) ?_
    refine W.seq_k fun K11 hK11 => ?_
    refine W.regionT [(0, true), (1, true)] (by kernel_rfl) ?_
    refine Plan.assign_int rfl rfl ?_
    refine Plan.assign_bool rfl rfl ?_
    refine Plan.nil ?_
    refine hK11 _ _ ?_; clear hK11
    refine W.ret (thenR_ret (finR_ret ?_))
    subst r
    refine RetOk.mk (.tmp_int rfl (.tmp_bool rfl .nil)) ?_
    exact ⟨rfl, h9⟩
  ·
    replace hR := ifF hR hc10
    refine W.condF (congrArg Value.bool (decide_eq_false hc10)) ?_
    refine W.skip ?_
    refine hK5 _ _ ?_; clear hK5
    refine W.seq_k fun K12 hK12 => ?_
    refine W.regionT [(0, true), (1, true), (2, true), (3, true), (4, false), (5, true), (6, true), (7, true), (8, true)] (by kernel_rfl) ?_
    refine Plan.move_slice rfl rfl ?_
    refine Plan.move_int rfl rfl ?_
    refine Plan.move_slice rfl rfl ?_
    refine Plan.buildP (ps := [(1, fun _ => .int .i64 table2), (1, fun _ => .slice akey3 key3.length ckey3), (1, fun _ => .slice none 0 0)]) FPack.pl25 (by decide) FPack.z25 rfl rfl (.one [] [(1, fun _ => .slice none 0 0), (1, fun _ => .slice none 0 0)] (fun _ => VN 0) rfl rfl (.one [(1, fun _ => .int .i64 table2)] [(1, fun _ => .slice none 0 0)] (fun _ => .slice none 0 0) rfl rfl .nil)) ?_
    obtain ⟨x_14, x_15, hr13, hR⟩ := hR
    refine Plan.call (vs := [.slice alist1 list1.length clist1, AG [(1, fun _ => .int .i64 table2), (1, fun _ => .slice akey3 key3.length ckey3), (1, fun _ => .slice none 0 0)]]) rfl FPack.call61 rfl (pack_place_ok (by exact (LV.grow D25_lifts (fun r hr => List.mem_append_right [] ((fun _ h => h) r hr)) hlist1)) hkey3 (by exact (Bx.nil 0)) hr13 h9) ?_
    rintro _ w16 ⟨rfl, h16⟩
    refine ⟨_, rfl, .inl ⟨PIn.keep PIn.nil h16, ?_⟩⟩
    refine Plan.extract_int rfl rfl rfl ?_
    refine Plan.extract_bool rfl rfl rfl ?_
    refine Plan.assign_int rfl rfl ?_
    refine Plan.assign_bool rfl rfl ?_
    refine Plan.nil ?_
    refine hK12 _ _ ?_; clear hK12
    refine W.ret (finR_ret ?_)
    subst r
    refine RetOk.mk (.tmp_int rfl (.tmp_bool rfl .nil)) ?_
    exact ⟨rfl, h16⟩


set_option maxRecDepth 8000 in
set_option maxHeartbeats 1000000 in
theorem pack_Delete_ok {B : Nat} {w0 w : World} {L : List Rg} {list1 : List (Int × (List Byte) × (List Byte))} {alist1 : Option Addr} {nlist1 clist1 ilist1 : Nat} (hlist1 : LV (D25.at L) L ilist1 alist1 nlist1 clist1 list1) {table2 : Int} {key3 : List Byte} {akey3 : Option Addr} {nkey3 ckey3 ikey3 : Nat} (hkey3 : Bx L ikey3 akey3 nkey3 ckey3 key3) {r : ((List (Int × (List Byte) × (List Byte))) × Nat)} (hR : pack_Delete list1 table2 key3 r) (HST : St B w0 (L) w) :
    Calls Try.prog 21 #[.slice alist1 nlist1 clist1, .int .i64 table2, .slice akey3 nkey3 ckey3] w fun e w' => ∃ C : List Rg, ∃ ay0 : Option Addr, ∃ py0 : Option Nat, ∃ ny0 : Nat, ∃ cy0 : Nat, ∃ Fy0 : Nat → Value, e = .returned (.tuple #[.slice ay0 ny0 cy0, VN r.2]) ∧ St B w0 (⟨py0, 0, cy0 * 3, Fy0, true⟩ :: (C ++ L)) w' ∧ LO (D25.at C) [] ay0 py0 ny0 cy0 Fy0 r.1 := by
  refine W.enter 36 Try.func21 rfl rfl rfl ?_
  unfold pack_Delete at hR
  obtain ⟨LP, hLPn⟩ : ∃ X, X = ([] : List Rg) := ⟨_, rfl⟩
  have hLP : ∀ r ∈ LP, r ∈ L := by rw [hLPn]; exact fun r hr => nomatch hr
  have hFr : Fr2 L [] L LP := by rw [hLPn]; exact Fr2.refl _ _
  have elist1 := hlist1.hl; subst elist1
  have ekey3 := hkey3.hl; subst ekey3
  refine W.seq_k fun K4 hK4 => ?_
  refine W.regionT [(0, true), (1, true)] (by kernel_rfl) ?_
  refine Plan.assign_slice rfl rfl ?_
  refine Plan.assign_int rfl rfl ?_
  refine Plan.nil ?_
  refine hK4 _ _ ?_; clear hK4
  refine W.seq_k fun K5 hK5 => ?_
  refine W.seq_k fun K6 hK6 => ?_
  refine W.regionT [(0, true), (1, false), (2, true)] (by kernel_rfl) ?_
  refine Plan.move_slice rfl rfl ?_
  obtain ⟨x_8, hr7, hR⟩ := hR
  refine Plan.call (vs := [.slice alist1 list1.length clist1]) rfl FPack.call60 rfl (pack_sorted_ok (by exact (LV.grow D25_lifts (fun r hr => List.mem_append_right [] ((fun _ h => h) r hr)) hlist1)) hr7 HST) ?_
  rintro _ w9 ⟨rfl, h9⟩
  refine ⟨_, rfl, .inl ⟨PIn.keep PIn.nil h9, ?_⟩⟩
  refine Plan.assign_int rfl rfl ?_
  refine Plan.nil ?_
  refine hK6 _ _ ?_; clear hK6
  refine W.seq_k fun K10 hK10 => ?_
  refine W.regionT [(0, true), (1, true)] (by kernel_rfl) ?_
  refine Plan.move_int rfl rfl ?_
  refine Plan.cmpP (a := (((x_8 : Nat) : Int) : Int)) (b := (0 : Int)) (p := x_8 ≠ 0) rfl rfl rfl rfl icmp_neN ?_
  refine Plan.nil ?_
  refine hK10 _ _ ?_; clear hK10
  by_cases hc11 : x_8 ≠ 0
  ·
    replace hR := ifT hR hc11
    refine W.condT (congrArg Value.bool (decide_eq_true hc11)) ?_
    refine W.seq_k fun K12 hK12 => ?_
    refine W.regionT [(0, true), (1, true), (2, true)] (by kernel_rfl) ?_
    refine Plan.move_int rfl rfl ?_
    refine Plan.assign_slice rfl rfl ?_
    refine Plan.assign_int rfl rfl ?_
    refine Plan.nil ?_
    refine hK12 _ _ ?_; clear hK12
    refine W.ret (thenR_ret (finR_ret ?_))
    have h13 : St B w0 (⟨none, 0, 0 * 3, fun _ => undef, true⟩ :: _) _ := h9.nilE (fun _ => undef)
    subst r
    refine RetOk.mk (.tmp_slice rfl (.tmp_int rfl .nil)) ?_
    subst hLPn
    exact ⟨[], none, none, 0, 0, (fun _ => undef), rfl, h13, LO.nil⟩
  ·
    replace hR := ifF hR hc11
    refine W.condF (congrArg Value.bool (decide_eq_false hc11)) ?_
    refine W.skip ?_
    refine hK5 _ _ ?_; clear hK5
    refine W.seq_k fun K14 hK14 => ?_
    refine W.regionT [(0, true), (1, true), (2, true), (3, true), (4, false), (5, true), (6, true), (7, true), (8, true), (9, true)] (by kernel_rfl) ?_
    refine Plan.move_slice rfl rfl ?_
    refine Plan.move_int rfl rfl ?_
    refine Plan.move_slice rfl rfl ?_
    refine Plan.buildP (ps := [(1, fun _ => .int .i64 table2), (1, fun _ => .slice akey3 key3.length ckey3), (1, fun _ => .slice none 0 0)]) FPack.pl25 (by decide) FPack.z25 rfl rfl (.one [] [(1, fun _ => .slice none 0 0), (1, fun _ => .slice none 0 0)] (fun _ => VN 0) rfl rfl (.one [(1, fun _ => .int .i64 table2)] [(1, fun _ => .slice none 0 0)] (fun _ => .slice none 0 0) rfl rfl .nil)) ?_
    obtain ⟨x_16, x_17, hr15, hR⟩ := hR
    refine Plan.call (vs := [.slice alist1 list1.length clist1, AG [(1, fun _ => .int .i64 table2), (1, fun _ => .slice akey3 key3.length ckey3), (1, fun _ => .slice none 0 0)]]) rfl FPack.call61 rfl (pack_place_ok (by exact (LV.grow D25_lifts (fun r hr => List.mem_append_right [] ((fun _ h => h) r hr)) hlist1)) hkey3 (by exact (Bx.nil 0)) hr15 h9) ?_
    rintro _ w18 ⟨rfl, h18⟩
    refine ⟨_, rfl, .inl ⟨PIn.keep PIn.nil h18, ?_⟩⟩
    refine Plan.move_tuple rfl rfl ?_
    refine Plan.extract_int rfl rfl rfl ?_
    refine Plan.extract_bool rfl rfl rfl ?_
    refine Plan.assign_int rfl rfl ?_
    refine Plan.assign_bool rfl rfl ?_
    refine Plan.nil ?_
    refine hK14 _ _ ?_; clear hK14
    refine W.seq_k fun K19 hK19 => ?_
    refine W.seq_k fun K20 hK20 => ?_
    refine W.regionT [(0, true), (1, true)] (by kernel_rfl) ?_
    refine Plan.move_bool rfl rfl ?_
    refine Plan.not rfl rfl ?_
    refine Plan.nil ?_
    refine hK20 _ _ ?_; clear hK20
    by_cases hc21 : x_17 = true
    ·
      replace hR := ifT hR hc21
      refine W.condF (congrArg Value.bool (congrArg Bool.not hc21)) ?_
      refine W.skip ?_
      refine hK19 _ _ ?_; clear hK19
      refine W.seq_k fun K22 hK22 => ?_
      refine W.regionD FPack.mixed [(0, true), (1, true), (2, true), (4, true), (5, true), (6, true), (7, true), (3, false), (8, false), (9, false), (10, true), (11, true)] (by kernel_rfl) ?_
      have h23 := h18.drew
      refine Plan.move_slice rfl rfl ?_
      refine Plan.move_int rfl rfl ?_
      obtain ⟨hc24, hR⟩ := hR
      refine Plan.slLV (D := (D25.at L)) (sz := 3) (lo := 0) (hi := x_16) hlist1 rfl FPack.sl22 rfl rfl rfl ⟨_, rfl⟩ hc24 fun a25 c25 hv25 => ?_
      refine Plan.move_slice rfl rfl ?_
      refine Plan.move_int rfl rfl ?_
      obtain ⟨hc26, hR⟩ := hR
      refine Plan.addN (a := x_16) (b := 1) rfl rfl rfl (by omega) ?_
      obtain ⟨hc27, hR⟩ := hR
      refine Plan.slLV (D := (D25.at L)) (sz := 3) (lo := (x_16 + 1)) (hi := list1.length) hlist1 rfl FPack.sl22 rfl rfl ⟨_, rfl⟩ rfl hc27 fun a28 c28 hv28 => ?_
      obtain ⟨x_30, hr29, hR⟩ := hR
      refine Plan.call (vs := [.slice a25 ((sgl list1 0 x_16).length) c25]) rfl FPack.call62 rfl (pack_twins_ok (by exact (LV.grow D25_lifts (fun r hr => List.mem_append_right [] ((fun _ h => h) r hr)) hv25)) hr29 h23) ?_
      rintro _ w36 ⟨C36, ay0_31, py0_32, ny0_33, cy0_34, Fy0_35, rfl, h36, hf36_0⟩
      replace h36 := St.pool (N := [_]) (R := []) h36
      obtain ⟨L, hL37⟩ : ∃ X, X = C36 ++ L := ⟨_, rfl⟩
      obtain ⟨LP, hQ37⟩ : ∃ X, X = C36 ++ LP := ⟨_, rfl⟩
      replace hLP : ∀ r ∈ LP, r ∈ L := by rw [hQ37, hL37]; exact frMemGrow hLP
      have h37 := St.re (N := [_]) hL37 h36
      simp only [List.cons_append, List.nil_append] at h37
      replace hFr : Fr2 _ _ L LP := hFr.step hL37 hQ37
      obtain ⟨ix38, hv38⟩ : ∃ i, LV (D25.at L) L i alist1 list1.length clist1 list1 := ⟨_, by rw [hL37]; exact (LV.grow D25_lifts (fun r hr => List.mem_append_right _ hr) hlist1).app _⟩
      obtain ⟨ix39, hv39⟩ : ∃ i, Bx L i akey3 key3.length ckey3 key3 := ⟨_, by rw [hL37]; exact hkey3.app _⟩
      obtain ⟨ix40, hv40⟩ : ∃ i, LV (D25.at L) L i a25 ((sgl list1 0 x_16).length) c25 (sgl list1 0 x_16) := ⟨_, by rw [hL37]; exact (LV.grow D25_lifts (fun r hr => List.mem_append_right _ hr) hv25).app _⟩
      obtain ⟨ix41, hv41⟩ : ∃ i, LV (D25.at L) L i a28 ((sgl list1 (x_16 + 1) list1.length).length) c28 (sgl list1 (x_16 + 1) list1.length) := ⟨_, by rw [hL37]; exact (LV.grow D25_lifts (fun r hr => List.mem_append_right _ hr) hv28).app _⟩
      obtain rfl := hf36_0.hl
      have hd36_0 : LO (D25.at LP) [] ay0_31 py0_32 (x_30).length cy0_34 Fy0_35 x_30 := LO.grow D25_lifts (fun r hr => (by rw [hQ37]; exact List.mem_append_left _ hr)) hf36_0
      refine ⟨_, rfl, .inl ⟨PIn.keep PIn.nil h37, ?_⟩⟩
      obtain ⟨x_43, hr42, hR⟩ := hR
      refine Plan.call (vs := [.slice a28 ((sgl list1 (x_16 + 1) list1.length).length) c28]) rfl FPack.call62 rfl (pack_twins_ok (by exact (LV.grow D25_lifts (fun r hr => List.mem_append_right [_] ((fun _ h => h) r hr)) (hv41.app [_]))) hr42 h37) ?_
      rintro _ w49 ⟨C49, ay0_44, py0_45, ny0_46, cy0_47, Fy0_48, rfl, h49, hf49_0⟩
      replace h49 := St.pool (N := [_]) (R := [_]) h49
      obtain ⟨L, hL50⟩ : ∃ X, X = C49 ++ L := ⟨_, rfl⟩
      obtain ⟨LP, hQ50⟩ : ∃ X, X = C49 ++ LP := ⟨_, rfl⟩
      replace hLP : ∀ r ∈ LP, r ∈ L := by rw [hQ50, hL50]; exact frMemGrow hLP
      have h50 := St.re (N := [_, _]) hL50 h49
      simp only [List.cons_append, List.nil_append] at h50
      replace hFr : Fr2 _ _ L LP := hFr.step hL50 hQ50
      obtain ⟨ix51, hv51⟩ : ∃ i, LV (D25.at L) L i alist1 list1.length clist1 list1 := ⟨_, by rw [hL50]; exact (LV.grow D25_lifts (fun r hr => List.mem_append_right _ hr) hv38).app _⟩
      obtain ⟨ix52, hv52⟩ : ∃ i, Bx L i akey3 key3.length ckey3 key3 := ⟨_, by rw [hL50]; exact hv39.app _⟩
      obtain ⟨ix53, hv53⟩ : ∃ i, LV (D25.at L) L i a25 ((sgl list1 0 x_16).length) c25 (sgl list1 0 x_16) := ⟨_, by rw [hL50]; exact (LV.grow D25_lifts (fun r hr => List.mem_append_right _ hr) hv40).app _⟩
      obtain ⟨ix54, hv54⟩ : ∃ i, LV (D25.at L) L i a28 ((sgl list1 (x_16 + 1) list1.length).length) c28 (sgl list1 (x_16 + 1) list1.length) := ⟨_, by rw [hL50]; exact (LV.grow D25_lifts (fun r hr => List.mem_append_right _ hr) hv41).app _⟩
      have ho55 : LO (D25.at LP) [] ay0_31 py0_32 (x_30).length cy0_34 Fy0_35 x_30 := by rw [hQ50]; exact LO.grow D25_lifts (fun r hr => List.mem_append_right _ hr) hd36_0
      obtain rfl := hf49_0.hl
      have hd49_0 : LO (D25.at LP) [] ay0_44 py0_45 (x_43).length cy0_47 Fy0_48 x_43 := LO.grow D25_lifts (fun r hr => (by rw [hQ50]; exact List.mem_append_left _ hr)) hf49_0
      refine ⟨_, rfl, .inl ⟨PIn.keep PIn.nil h50, ?_⟩⟩
      obtain ⟨hc57, hR⟩ := hR
      refine Plan.appendLO (D := (D25.at LP)) (X := x_30) (Y := x_43) (sz := 3) h50 ((none, 0), (none, 0)) ((0 : Int), ([] : List Byte), ([] : List Byte)) 1 ho55 rfl FPack.el22 rfl FPack.slu22 rfl rfl rfl rfl (LO.lvf EL.at_flat hd49_0 0 rfl) (fun _ _ h => h) hc57.1 hc57.2 (fun _ => EffO.keep PIn.nil) fun a56 pb56 cap56 F56 w56 ho56 h56 => ?_
      simp only [List.cons_append, List.nil_append, List.set_cons_zero, List.set_cons_succ] at h56
      replace ho56 : LO (D25.at LP) [] a56 pb56 (x_30 ++ x_43).length cap56 F56 (x_30 ++ x_43) := ho56.re (fun _ _ h => h)
      refine Plan.assign_slice rfl rfl ?_
      refine Plan.assign_int rfl rfl ?_
      refine Plan.nil ?_
      refine hK22 _ _ ?_; clear hK22
      refine W.ret (finR_ret ?_)
      have h58 := St.pickT (C := [_, _]) h56 [1] (by decide)
      simp only [pick, List.filterMap_cons, List.filterMap_nil, List.getElem?_cons_zero, List.getElem?_cons_succ, List.cons_append, List.nil_append] at h58
      subst r
      refine RetOk.mk (.tmp_slice rfl (.tmp_int rfl .nil)) ?_
      obtain ⟨CF, hx1, hx2⟩ := hFr
      simp only [List.append_nil] at hx2
      subst hx1
      subst hx2
      exact ⟨_, a56, pb56, (x_30 ++ x_43).length, cap56, F56, rfl, h58, ho56⟩
    ·
      replace hR := ifF hR hc21
      refine W.condT (congrArg Value.bool (congrArg Bool.not (Bool.eq_false_iff.2 hc21))) ?_
      refine W.seq_k fun K59 hK59 => ?_
      refine W.regionT [(0, true), (1, true)] (by kernel_rfl) ?_
      refine Plan.assign_slice rfl rfl ?_
      refine Plan.assign_int rfl rfl ?_
      refine Plan.nil ?_
      refine hK59 _ _ ?_; clear hK59
      refine W.ret (thenR_ret (finR_ret ?_))
      have h60 : St B w0 (⟨none, 0, 0 * 3, fun _ => undef, true⟩ :: _) _ := h18.nilE (fun _ => undef)
      subst r
      refine RetOk.mk (.tmp_slice rfl (.tmp_int rfl .nil)) ?_
      subst hLPn
      exact ⟨[], none, none, 0, 0, (fun _ => undef), rfl, h60, LO.nil⟩


set_option maxRecDepth 8000 in
set_option maxHeartbeats 1000000 in
theorem pack_Size_ok {B : Nat} {w0 w : World} {L : List Rg} {rTable1 : Int} {rKey2 : List Byte} {arKey2 : Option Addr} {nrKey2 crKey2 irKey2 : Nat} (hrKey2 : Bx L irKey2 arKey2 nrKey2 crKey2 rKey2) {rValue3 : List Byte} {arValue3 : Option Addr} {nrValue3 crValue3 irValue3 : Nat} (hrValue3 : Bx L irValue3 arValue3 nrValue3 crValue3 rValue3) {r : Nat} (hR : pack_Size rTable1 rKey2 rValue3 r) (HST : St B w0 (L) w) :
    Calls Try.prog 26 #[AG [(1, fun _ => .int .i64 rTable1), (1, fun _ => .slice arKey2 nrKey2 crKey2), (1, fun _ => .slice arValue3 nrValue3 crValue3)]] w fun e w' => e = .returned (VN r) ∧ St B w0 (L) w' := by
  refine W.enter 11 Try.func26 rfl rfl rfl ?_
  unfold pack_Size at hR
  have erKey2 := hrKey2.hl; subst erKey2
  have erValue3 := hrValue3.hl; subst erValue3
  refine W.seq_k fun K4 hK4 => ?_
  refine W.regionT [(0, false), (1, true)] (by kernel_rfl) ?_
  refine Plan.boxA HST rfl rfl PIn.nil fun b5 w5 hb5 h5 => ?_
  simp only [rngs, Nat.zero_add, Nat.reduceAdd, List.cons_append, List.nil_append] at h5
  refine Plan.assign_int rfl rfl ?_
  refine Plan.nil ?_
  refine hK4 _ _ ?_; clear hK4
  refine W.seq_k fun K6 hK6 => ?_
  refine W.regionT [(0, true), (1, true), (2, true), (3, true), (4, true), (5, true), (6, true), (7, true), (8, true)] (by kernel_rfl) ?_
  refine Plan.fieldAddr 1 FPack.fld25_1 rfl rfl ?_
  refine Plan.load0 h5 1 rfl rfl rfl (by omega) FPack.sc23 ?_
  refine Plan.len FPack.isl23 rfl rfl ?_
  obtain ⟨hc7, hR⟩ := hR
  refine Plan.addN (a := 4) (b := rKey2.length) rfl rfl rfl (by omega) ?_
  refine Plan.fieldAddr 2 FPack.fld25_2 rfl rfl ?_
  refine Plan.load0 h5 2 rfl rfl rfl (by omega) FPack.sc23 ?_
  refine Plan.len FPack.isl23 rfl rfl ?_
  obtain ⟨hc8, hR⟩ := hR
  refine Plan.addN (a := (4 + rKey2.length)) (b := rValue3.length) rfl rfl rfl (by omega) ?_
  refine Plan.assign_int rfl rfl ?_
  refine Plan.nil ?_
  refine hK6 _ _ ?_; clear hK6
  refine W.ret (finR_ret ?_)
  have h9 := St.pickT (C := [_, _, _]) h5 [] (by decide)
  simp only [pick, List.filterMap_cons, List.filterMap_nil, List.getElem?_cons_zero, List.getElem?_cons_succ, List.cons_append, List.nil_append] at h9
  subst r
  refine RetOk.mk (.tmp_int rfl .nil) ?_
  exact ⟨rfl, h9⟩


set_option maxRecDepth 8000 in
set_option maxHeartbeats 1000000 in
theorem pack_Pack_ok {B : Nat} {w0 w : World} {L : List Rg} {list1 : List (Int × (List Byte) × (List Byte))} {alist1 : Option Addr} {nlist1 clist1 ilist1 : Nat} (hlist1 : LV (D25.at L) L ilist1 alist1 nlist1 clist1 list1) {r : ((List Int) × Nat)} (hR : pack_Pack list1 r) (HST : St B w0 (L) w) :
    Calls Try.prog 25 #[.slice alist1 nlist1 clist1] w fun e w' => ∃ ay0 : Option Addr, ∃ py0 : Option Nat, ∃ ny0 : Nat, ∃ cy0 : Nat, ∃ Fy0 : Nat → Value, e = .returned (.tuple #[.slice ay0 ny0 cy0, VN r.2]) ∧ St B w0 (⟨py0, 0, cy0 * 1, Fy0, true⟩ :: L) w' ∧ LO D3 [] ay0 py0 ny0 cy0 Fy0 r.1 := by
  refine W.enter 41 Try.func25 rfl rfl rfl ?_
  unfold pack_Pack at hR
  have elist1 := hlist1.hl; subst elist1
  refine W.seq_k fun K2 hK2 => ?_
  refine W.regionT [(0, true), (1, true)] (by kernel_rfl) ?_
  refine Plan.assign_slice rfl rfl ?_
  refine Plan.assign_int rfl rfl ?_
  refine Plan.nil ?_
  refine hK2 _ _ ?_; clear hK2
  refine W.seq_k fun K3 hK3 => ?_
  refine W.seq_k fun K4 hK4 => ?_
  refine W.regionT [(0, true), (1, false), (2, true)] (by kernel_rfl) ?_
  refine Plan.move_slice rfl rfl ?_
  obtain ⟨x_6, hr5, hR⟩ := hR
  refine Plan.call (vs := [.slice alist1 list1.length clist1]) rfl FPack.call60 rfl (pack_sorted_ok (by exact (LV.grow D25_lifts (fun r hr => List.mem_append_right [] ((fun _ h => h) r hr)) hlist1)) hr5 HST) ?_
  rintro _ w7 ⟨rfl, h7⟩
  refine ⟨_, rfl, .inl ⟨PIn.keep PIn.nil h7, ?_⟩⟩
  refine Plan.assign_int rfl rfl ?_
  refine Plan.nil ?_
  refine hK4 _ _ ?_; clear hK4
  refine W.seq_k fun K8 hK8 => ?_
  refine W.regionT [(0, true), (1, true)] (by kernel_rfl) ?_
  refine Plan.move_int rfl rfl ?_
  refine Plan.cmpP (a := (((x_6 : Nat) : Int) : Int)) (b := (0 : Int)) (p := x_6 ≠ 0) rfl rfl rfl rfl icmp_neN ?_
  refine Plan.nil ?_
  refine hK8 _ _ ?_; clear hK8
  by_cases hc9 : x_6 ≠ 0
  ·
    replace hR := ifT hR hc9
    refine W.condT (congrArg Value.bool (decide_eq_true hc9)) ?_
    refine W.seq_k fun K10 hK10 => ?_
    refine W.regionT [(0, true), (1, true), (2, true)] (by kernel_rfl) ?_
    refine Plan.move_int rfl rfl ?_
    refine Plan.assign_slice rfl rfl ?_
    refine Plan.assign_int rfl rfl ?_
    refine Plan.nil ?_
    refine hK10 _ _ ?_; clear hK10
    refine W.ret (thenR_ret (finR_ret ?_))
    have h11 : St B w0 (⟨none, 0, 0 * 1, fun _ => undef, true⟩ :: _) _ := h7.nilE (fun _ => undef)
    subst r
    refine RetOk.mk (.tmp_slice rfl (.tmp_int rfl .nil)) ?_
    exact ⟨none, none, 0, 0, (fun _ => undef), rfl, h11, LO.nil⟩
  ·
    replace hR := ifF hR hc9
    refine W.condF (congrArg Value.bool (decide_eq_false hc9)) ?_
    refine W.skip ?_
    refine hK3 _ _ ?_; clear hK3
    refine W.seq_k fun K12 hK12 => ?_
    refine W.regionT [(0, true)] (by kernel_rfl) ?_
    refine Plan.assign_slice rfl rfl ?_
    refine Plan.nil ?_
    refine hK12 _ _ ?_; clear hK12
    refine W.seq_k fun K13 hK13 => ?_
    refine W.regionT [(0, true)] (by kernel_rfl) ?_
    refine Plan.assign_int rfl rfl ?_
    refine Plan.nil ?_
    refine hK13 _ _ ?_; clear hK13
    refine W.seq_k fun K14 hK14 => ?_
    refine W.seq_k fun K15 hK15 => ?_
    refine W.regionT [(0, true), (1, true), (2, true)] (by kernel_rfl) ?_
    refine Plan.move_slice rfl rfl ?_
    refine Plan.len FPack.isl22 rfl rfl ?_
    refine Plan.move_int rfl rfl ?_
    refine Plan.nil ?_
    refine hK15 _ _ ?_; clear hK15
    have h124 : St B w0 (⟨none, 0, 0 * 1, fun _ => undef, true⟩ :: _) _ := h7.nilE (fun _ => undef)
    obtain ⟨out122, hI123, hR0123⟩ := hR
    refine W.cutN (fun e w => ∃ y_out122 : List Int, out122 = y_out122 ∧ ∃ n_out122 : Nat, ∃ aout122 : Option Addr, ∃ pout122 : Option Nat, ∃ cout122 : Nat, ∃ Fout122 : Nat → Value, EnvHas e [(5, .slice aout122 n_out122 cout122)] ∧ St B w0 (⟨pout122, 0, cout122 * 1, Fout122, true⟩ :: L) w ∧ LO D3 [] aout122 pout122 n_out122 cout122 Fout122 y_out122) ?_ ?_
    ·
      refine W.block ?_
      refine W.iter hI123 (fun (s123 : ((List Int) × Int × Nat)) e w => ∃ n_out118 : Nat, ∃ aout118 : Option Addr, ∃ pout118 : Option Nat, ∃ cout118 : Nat, ∃ Fout118 : Nat → Value, EnvHas e [(5, .slice aout118 n_out118 cout118), (6, .int .i64 s123.2.1), (14, .slice alist1 list1.length clist1), (15, VN list1.length), (16, VN s123.2.2)] ∧ St B w0 (⟨pout118, 0, cout118 * 1, Fout118, true⟩ :: L) w ∧ LO D3 [] aout118 pout118 n_out118 cout118 Fout118 s123.1) ⟨0, none, none, 0, (fun _ => undef), (EnvHas.cons rfl (EnvHas.cons rfl (EnvHas.cons rfl (EnvHas.cons rfl (EnvHas.cons rfl EnvHas.nil))))), h124, LO.nil⟩ ?_
      rintro ⟨out118, left120, t121⟩ o123 hR hx123 ev125 wl125 ⟨n_out118, aout118, pout118, cout118, Fout118, he125, h125, hout118⟩
      try dsimp only at he125 h125 hout118
      obtain rfl : List.length (α := Int) out118 = n_out118 := hout118.hl
      obtain ⟨ev125, rfl⟩ := he125.open
      unfold pack_Pack_l0 at hR
      refine W.seq_k fun K126 hK126 => ?_
      refine W.regionT [(0, true)] (by kernel_rfl) ?_
      refine Plan.cmpP (a := (((t121 : Nat) : Int) : Int)) (b := (((list1.length : Nat) : Int) : Int)) (p := t121 < list1.length) rfl rfl rfl rfl icmp_ltN ?_
      refine Plan.nil ?_
      refine hK126 _ _ ?_; clear hK126
      refine W.seq_k fun K127 hK127 => ?_
      by_cases hc128 : t121 < list1.length
      ·
        replace hR := ifT hR hc128
        refine W.condT (congrArg Value.bool (decide_eq_true hc128)) ?_
        refine W.skip ?_
        refine hK127 _ _ ?_; clear hK127
        refine W.seq_k fun K129 hK129 => ?_
        refine W.block ?_
        refine W.seq_k fun K130 hK130 => ?_
        refine W.regionT [(0, true), (1, true), (2, false), (3, false)] (by kernel_rfl) ?_
        obtain ⟨hc131, hR⟩ := hR
        refine Plan.idxLVS (D := (D25.at L)) (j := t121) h125 (hlist1.app [_]) FPack.sl22 rfl rfl rfl hc131 ?_
        refine Plan.loadLV (D := (D25.at L)) (X := list1) (j := t121) (sz := 3) h125 ((0 : Int), ([] : List Byte), ([] : List Byte)) (hlist1.app [_]) rfl rfl hc131 rfl FPack.agg25 fun b132 r132 hs132 hr132 => ?_
        obtain ⟨⟨i132_1, hv132_1⟩, ⟨i132_2, hv132_2⟩⟩ := hs132
        refine Plan.alloc h125 rfl FPack.z25 (PIn.cons (ilist1 + 1) hr132 PIn.nil) fun b133 w133 hb133 h133 => ?_
        simp only [rngs, Nat.zero_add, Nat.reduceAdd, List.cons_append, List.nil_append] at h133
        refine Plan.storeP (ps := [(1, fun _ => .int .i64 ((list1.getD t121 ((0 : Int), ([] : List Byte), ([] : List Byte))).1)), (1, fun _ => .slice ((b132.1).1) (((list1.getD t121 ((0 : Int), ([] : List Byte), ([] : List Byte))).2.1).length) ((b132.1).2)), (1, fun _ => .slice ((b132.2).1) (((list1.getD t121 ((0 : Int), ([] : List Byte), ([] : List Byte))).2.2).length) ((b132.2).2))]) h133 rfl rfl rfl (.cons 0 rfl (.cons 1 rfl (.cons 2 rfl .nil))) ⟨fun _ _ => rfl, fun _ _ => rfl, fun _ _ => rfl, trivial⟩ FPack.sz25 (EffO.wait rfl) fun w134 h134 => ?_
        simp only [List.cons_append, List.nil_append, List.set_cons_zero, List.set_cons_succ] at h134
        refine Plan.nil ?_
        refine hK130 _ _ ?_; clear hK130
        refine W.seq_k fun K135 hK135 => ?_
        obtain ⟨out146, left147, hX148, hR0148⟩ := hR
        refine W.cutN (fun e w => ∃ y_out146 : List Int, ∃ y_left147 : Int, (out146 = y_out146 ∧ left147 = y_left147) ∧ ∃ n_out146 : Nat, ∃ aout146 : Option Addr, ∃ pout146 : Option Nat, ∃ cout146 : Nat, ∃ Fout146 : Nat → Value, EnvHas e [(5, .slice aout146 n_out146 cout146), (6, .int .i64 y_left147), (8, .pointer (some ⟨b133, 0, none⟩)), (14, .slice alist1 list1.length clist1), (15, VN list1.length), (16, VN t121)] ∧ St B w0 (⟨pout146, 0, cout146 * 1, Fout146, true⟩ :: ⟨some b133, 0, 1, fun _ => .int .i64 ((list1.getD t121 ((0 : Int), ([] : List Byte), ([] : List Byte))).1), true⟩ :: ⟨some b133, 1, 1, fun _ => .slice ((b132.1).1) (((list1.getD t121 ((0 : Int), ([] : List Byte), ([] : List Byte))).2.1).length) ((b132.1).2), true⟩ :: ⟨some b133, 2, 1, fun _ => .slice ((b132.2).1) (((list1.getD t121 ((0 : Int), ([] : List Byte), ([] : List Byte))).2.2).length) ((b132.2).2), true⟩ :: L) w ∧ LO D3 [] aout146 pout146 n_out146 cout146 Fout146 y_out146) ?_ ?_
        ·
          replace hR := hX148
          refine W.seq_k fun K149 hK149 => ?_
          refine W.regionT [(0, true), (1, false), (2, true), (3, true)] (by kernel_rfl) ?_
          refine Plan.loadA h134 rfl rfl (.cons 0 rfl (.cons 1 rfl (.cons 2 rfl .nil))) FPack.agg25 ?_
          obtain ⟨x_151, hr150, hR⟩ := hR
          refine Plan.call (vs := [AG [(1, fun _ => .int .i64 ((list1.getD t121 ((0 : Int), ([] : List Byte), ([] : List Byte))).1)), (1, fun _ => .slice ((b132.1).1) (((list1.getD t121 ((0 : Int), ([] : List Byte), ([] : List Byte))).2.1).length) ((b132.1).2)), (1, fun _ => .slice ((b132.2).1) (((list1.getD t121 ((0 : Int), ([] : List Byte), ([] : List Byte))).2.2).length) ((b132.2).2))]]) rfl FPack.call26 rfl (pack_Size_ok (hv132_1.app [_, _, _, _]) (hv132_2.app [_, _, _, _]) hr150 h134) ?_
          rintro _ w152 ⟨rfl, h152⟩
          refine ⟨_, rfl, .inr ⟨rfl, ?_⟩⟩
          refine Plan.move_int rfl rfl ?_
          refine Plan.cmpP (a := (((x_151 : Nat) : Int) : Int)) (b := (left120 : Int)) (p := left120 < ((x_151 : Nat) : Int)) rfl rfl rfl rfl icmp_gt ?_
          refine Plan.nil ?_
          refine hK149 _ _ ?_; clear hK149
          by_cases hc153 : left120 < ((x_151 : Nat) : Int)
          ·
            replace hR := ifT hR hc153
            refine W.condT (congrArg Value.bool (decide_eq_true hc153)) ?_
            refine W.seq_k fun K154 hK154 => ?_
            refine W.regionT [(0, true), (1, false), (2, false), (3, true)] (by kernel_rfl) ?_
            refine Plan.move_slice rfl rfl ?_
            refine Plan.buildLO (D := D3) (sz := 1) h152 [((), (0 : Int))] FPack.slu43 FPack.sz3 FPack.zv3 (by decide) (by decide) rfl rfl rfl rfl (fun _ _ => trivial) (EffO.keep PIn.nil) fun b156 w156 F156 hb156 ho156 h156 => ?_
            replace ho156 : LO D3 [] (some ⟨b156, 0, none⟩) (some b156) ([0] : List Int).length 1 F156 ([0] : List Int) := ho156.re (fun _ _ h => h)
            obtain ⟨hc158, hR⟩ := hR
            refine Plan.appendLO (D := D3) (X := out118) (Y := ([0] : List Int)) (sz := 1) h156 () (0 : Int) 4 hout118 rfl FPack.el43 rfl FPack.slu43 rfl rfl rfl rfl (LO.lvf D3_flat ho156 0 rfl) (fun _ _ h => h) hc158.1 hc158.2 (fun _ => EffO.keep PIn.nil) fun a157 pb157 cap157 F157 w157 ho157 h157 => ?_
            simp only [List.cons_append, List.nil_append, List.set_cons_zero, List.set_cons_succ] at h157
            replace ho157 : LO D3 [] a157 pb157 (out118 ++ ([0] : List Int)).length cap157 F157 (out118 ++ ([0] : List Int)) := ho157.re (fun _ _ h => h)
            refine Plan.assign_slice rfl rfl ?_
            refine Plan.nil ?_
            refine hK154 _ _ ?_; clear hK154
            refine W.regionT [(0, true)] (by kernel_rfl) ?_
            refine Plan.assign_int rfl rfl ?_
            refine Plan.nil ?_
            have h159 := St.pickT (C := [_, _, _, _, _]) h157 [4, 1, 2, 3] (by decide)
            simp only [pick, List.filterMap_cons, List.filterMap_nil, List.getElem?_cons_zero, List.getElem?_cons_succ, List.cons_append, List.nil_append] at h159
            exact ⟨(out118 ++ ([0] : List Int)), 1008, hR, (out118 ++ ([0] : List Int)).length, a157, pb157, cap157, F157, (EnvHas.cons rfl (EnvHas.cons rfl (EnvHas.cons rfl (EnvHas.cons rfl (EnvHas.cons rfl (EnvHas.cons rfl EnvHas.nil)))))), h159, ho157⟩
          ·
            replace hR := ifF hR hc153
            refine W.condF (congrArg Value.bool (decide_eq_false hc153)) ?_
            refine W.skip ?_
            have h160 := St.pickT (C := [_, _, _, _]) h152 [3, 0, 1, 2] (by decide)
            simp only [pick, List.filterMap_cons, List.filterMap_nil, List.getElem?_cons_zero, List.getElem?_cons_succ, List.cons_append, List.nil_append] at h160
            exact ⟨out118, left120, hR, out118.length, aout118, pout118, cout118, Fout118, (EnvHas.cons rfl (EnvHas.cons rfl (EnvHas.cons rfl (EnvHas.cons rfl (EnvHas.cons rfl (EnvHas.cons rfl EnvHas.nil)))))), h160, hout118⟩
        ·
          rintro ev161 wl161 ⟨y_out146, y_left147, ⟨hy161_0, hy161_1⟩, n_out146, aout146, pout146, cout146, Fout146, he161, h161, hout146⟩
          subst hy161_0
          subst hy161_1
          obtain rfl : List.length (α := Int) out146 = n_out146 := hout146.hl
          obtain ⟨ev161, rfl⟩ := he161.open
          replace hR := hR0148
          refine hK135 _ _ ?_; clear hK135
          refine W.seq_k fun K162 hK162 => ?_
          refine W.regionT [(0, true), (1, true), (2, true), (3, true), (4, true), (5, true), (6, true), (7, true), (8, false)] (by kernel_rfl) ?_
          refine Plan.move_slice rfl rfl ?_
          refine Plan.move_slice rfl rfl ?_
          refine Plan.len FPack.isl43 rfl rfl ?_
          obtain ⟨hc163, hR⟩ := hR
          refine Plan.subI (a := ((out146.length : Nat) : Int)) (b := 1) rfl rfl rfl (by omega) ?_
          obtain ⟨hc164, hR⟩ := hR
          refine Plan.idxLVS (D := D3) (j := (((out146.length : Nat) : Int) - 1).toNat) h161 (LO.lvf D3_flat hout146 0 rfl) FPack.sl43 rfl rfl (congrArg (Value.int .i64) (Int.toNat_of_nonneg hc164.1).symm) (toNat_lt hc164.1 hc164.2) ?_
          refine Plan.loadLV1 (D := D3) (X := out146) (j := (((out146.length : Nat) : Int) - 1).toNat) h161 (0 : Int) (fun _ x => .int .i64 x) (LO.lvf D3_flat hout146 0 rfl) rfl rfl (toNat_lt hc164.1 hc164.2) rfl (fun _ _ => rfl) FPack.sc3 fun b165 r165 hs165 hr165 => ?_
          obtain ⟨hc166, hR⟩ := hR
          refine Plan.addI (a := (out146.getD ((((out146.length : Nat) : Int) - 1).toNat) (0 : Int))) (b := 1) rfl rfl rfl (by omega) ?_
          obtain ⟨hc167, hR⟩ := hR
          refine Plan.idxLVS (D := D3) (j := (((out146.length : Nat) : Int) - 1).toNat) h161 (LO.lvf D3_flat hout146 0 rfl) FPack.sl43 rfl rfl (congrArg (Value.int .i64) (Int.toNat_of_nonneg hc167.1).symm) (toNat_lt hc167.1 hc167.2) ?_
          refine Plan.storeLO1 (D := D3) (j := (((out146.length : Nat) : Int) - 1).toNat) h161 () ((out146.getD ((((out146.length : Nat) : Int) - 1).toNat) (0 : Int)) + 1) (.int .i64 ((out146.getD ((((out146.length : Nat) : Int) - 1).toNat) (0 : Int)) + 1)) 0 hout146 trivial rfl rfl rfl rfl rfl (toNat_lt hc167.1 hc167.2) rfl FPack.sz3 rfl fun w168 F168 ho168 h168 => ?_
          simp only [List.cons_append, List.nil_append, List.set_cons_zero, List.set_cons_succ] at h168
          have e168 : (out146.set ((((out146.length : Nat) : Int) - 1).toNat) ((out146.getD ((((out146.length : Nat) : Int) - 1).toNat) (0 : Int)) + 1)).length = out146.length := List.length_set
          refine Plan.nil ?_
          refine hK162 _ _ ?_; clear hK162
          refine W.regionT [(0, true), (1, true), (2, false), (3, true), (4, true)] (by kernel_rfl) ?_
          refine Plan.move_int rfl rfl ?_
          refine Plan.loadA h168 rfl rfl (.cons 1 rfl (.cons 2 rfl (.cons 3 rfl .nil))) FPack.agg25 ?_
          obtain ⟨x_170, hr169, hR⟩ := hR
          refine Plan.call (vs := [AG [(1, fun _ => .int .i64 ((list1.getD t121 ((0 : Int), ([] : List Byte), ([] : List Byte))).1)), (1, fun _ => .slice ((b132.1).1) (((list1.getD t121 ((0 : Int), ([] : List Byte), ([] : List Byte))).2.1).length) ((b132.1).2)), (1, fun _ => .slice ((b132.2).1) (((list1.getD t121 ((0 : Int), ([] : List Byte), ([] : List Byte))).2.2).length) ((b132.2).2))]]) rfl FPack.call26 rfl (pack_Size_ok (hv132_1.app [_, _, _, _]) (hv132_2.app [_, _, _, _]) hr169 h168) ?_
          rintro _ w171 ⟨rfl, h171⟩
          refine ⟨_, rfl, .inr ⟨rfl, ?_⟩⟩
          obtain ⟨hc172, hR⟩ := hR
          refine Plan.subI (a := left147) (b := ((x_170 : Nat) : Int)) rfl rfl rfl (by omega) ?_
          refine Plan.assign_int rfl rfl ?_
          refine Plan.nil ?_
          refine blockR_norm ?_
          refine hK129 _ _ ?_; clear hK129
          refine W.regionT [(0, true), (1, true)] (by kernel_rfl) ?_
          obtain ⟨hc173, hR⟩ := hR
          refine Plan.addN (a := t121) (b := 1) rfl rfl rfl (by omega) ?_
          refine Plan.move_int rfl rfl ?_
          refine Plan.nil ?_
          have h174 := St.pickT (C := [_, _, _, _]) h171 [0] (by decide)
          simp only [pick, List.filterMap_cons, List.filterMap_nil, List.getElem?_cons_zero, List.getElem?_cons_succ, List.cons_append, List.nil_append] at h174
          exact iterR_norm ⟨_, hR, out146.length, aout146, pout146, cout146, F168, (EnvHas.cons rfl (EnvHas.cons rfl (EnvHas.cons rfl (EnvHas.cons rfl (EnvHas.cons rfl EnvHas.nil))))), h174, (show LO D3 [] _ _ out146.length _ _ _ from ho168)⟩
      ·
        replace hR := ifF hR hc128
        refine W.condF (congrArg Value.bool (decide_eq_false hc128)) ?_
        refine W.exit (thenR_exit (iterR_exit (blockR_here ?_)))
        exact ⟨out118, (hx123 _ hR).symm, out118.length, aout118, pout118, cout118, Fout118, (EnvHas.cons rfl EnvHas.nil), h125, hout118⟩
    ·
      rintro ev175 wl175 ⟨y_out122, hy175, n_out122, aout122, pout122, cout122, Fout122, he175, h175, hout122⟩
      obtain ⟨ev175, rfl⟩ := he175.open
      subst hy175
      replace hR := hR0123
      obtain rfl : List.length (α := Int) out122 = n_out122 := hout122.hl
      refine hK14 _ _ ?_; clear hK14
      refine W.seq_k fun K176 hK176 => ?_
      refine W.regionT [(0, true), (1, true), (2, true)] (by kernel_rfl) ?_
      refine Plan.move_slice rfl rfl ?_
      refine Plan.assign_slice rfl rfl ?_
      refine Plan.assign_int rfl rfl ?_
      refine Plan.nil ?_
      refine hK176 _ _ ?_; clear hK176
      refine W.ret (finR_ret ?_)
      subst r
      refine RetOk.mk (.tmp_slice rfl (.tmp_int rfl .nil)) ?_
      exact ⟨aout122, pout122, out122.length, cout122, Fout122, rfl, h175, hout122⟩

end Go.Proofs.Ytbkgblhmlenocaa
