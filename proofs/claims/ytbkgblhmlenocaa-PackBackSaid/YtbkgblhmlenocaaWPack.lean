/-
  WALKS of the package's functions, printed by this session's own program (auto.py).
-/
import Derived.Test.YtbkgblhmlenocaaProg
import Derived.Test.YtbkgblhmlenocaaEb
import Derived.Test.YtbkgblhmlenocaaRPack
import Derived.Test.YtbkgblhmlenocaaEls
import Derived.Test.YtbkgblhmlenocaaWBytes
import Derived.Test.YtbkgblhmlenocaaWCmp
import Derived.Test.YtbkgblhmlenocaaWWire
namespace Go.Proofs.Ytbkgblhmlenocaa
set_option linter.unusedSimpArgs false
set_option linter.unusedVariables false
set_option linter.unusedSectionVars false
open Go Go.LW
theorem FPack.isl22 : ∃ el, Try.prog.underlying 22 = some (.slice el) := ⟨25, by kernel_rfl⟩
theorem FPack.sl22 : slB Try.prog 22 3 = true := by kernel_rfl
theorem FPack.agg25 : aggT Try.prog 25 3 = true := by kernel_rfl
theorem FPack.z25 : zeroIs Try.prog 25 [(1, fun _ => .int .i64 0), (1, fun _ => .slice none 0 0), (1, fun _ => .slice none 0 0)] := zeroIs_agg (by kernel_rfl)
theorem FPack.fld25_0 : fieldB Try.prog 25 0 0 = true := by kernel_rfl
theorem FPack.sc3 : scalarT Try.prog 3 = true := by kernel_rfl
theorem FPack.sz3 : szT Try.prog 3 1 = true := by kernel_rfl
theorem FPack.fld25_1 : fieldB Try.prog 25 1 1 = true := by kernel_rfl
theorem FPack.sc23 : scalarT Try.prog 23 = true := by kernel_rfl
theorem FPack.isl23 : ∃ el, Try.prog.underlying 23 = some (.slice el) := ⟨5, by kernel_rfl⟩
theorem FPack.zv5 : (Try.prog.info? 5).bind (·.zero) = some (VU .u8 0#8) := by kernel_rfl
theorem FPack.slu23 : Try.prog.underlying 23 = some (.slice 5) := by kernel_rfl
theorem FPack.sz5 : szT Try.prog 5 1 = true := by kernel_rfl
theorem FPack.sz23 : szT Try.prog 23 1 = true := by kernel_rfl
theorem FPack.sl23 : slB Try.prog 23 1 = true := by kernel_rfl
theorem FPack.fld25_2 : fieldB Try.prog 25 2 2 = true := by kernel_rfl
theorem FPack.sz25 : szT Try.prog 25 3 = true := by kernel_rfl
theorem FPack.zv25 : (Try.prog.info? 25).bind (·.zero) = some (AG [(1, fun _ => .int .i64 0), (1, fun _ => .slice none 0 0), (1, fun _ => .slice none 0 0)]) := by kernel_rfl
theorem FPack.slu22 : Try.prog.underlying 22 = some (.slice 25) := by kernel_rfl
theorem FPack.el22 : elD Try.prog 22 = some (3, 56, some (AG [(1, fun _ => .int .i64 0), (1, fun _ => .slice none 0 0), (1, fun _ => .slice none 0 0)])) := by kernel_rfl
theorem FPack.mixed : Try.prog.follows .mixedOrders = true := by kernel_rfl
theorem FPack.u5 : Try.prog.underlying 5 = some (.int .u8) := by kernel_rfl
theorem FPack.call57 : callB Try.prog 57 = true := by kernel_rfl
theorem FPack.call58 : callB Try.prog 58 = true := by kernel_rfl
theorem FPack.zv3 : (Try.prog.info? 3).bind (·.zero) = some (.int .i64 0) := by kernel_rfl
theorem FPack.slu43 : Try.prog.underlying 43 = some (.slice 3) := by kernel_rfl
theorem FPack.isl43 : ∃ el, Try.prog.underlying 43 = some (.slice el) := ⟨3, by kernel_rfl⟩
theorem FPack.sl43 : slB Try.prog 43 1 = true := by kernel_rfl
theorem FPack.call56 : callB Try.prog 56 = true := by kernel_rfl
theorem FPack.call16 : callB Try.prog 16 = true := by kernel_rfl
theorem FPack.call59 : callB Try.prog 59 = true := by kernel_rfl
theorem FPack.call85 : callB Try.prog 85 = true := by kernel_rfl
theorem FPack.call60 : callB Try.prog 60 = true := by kernel_rfl
theorem FPack.u121 : Try.prog.underlying 121 = some (.int .u64) := by kernel_rfl
theorem FPack.some3 : (Try.prog.underlying 3).isSome = true := by kernel_rfl
theorem FPack.u3 : Try.prog.underlying 3 = some (.int .i64) := by kernel_rfl
theorem FPack.some121 : (Try.prog.underlying 121).isSome = true := by kernel_rfl
theorem FPack.call87 : callB Try.prog 87 = true := by kernel_rfl
theorem FPack.call86 : callB Try.prog 86 = true := by kernel_rfl
theorem FPack.call61 : callB Try.prog 61 = true := by kernel_rfl
theorem FPack.zv23 : (Try.prog.info? 23).bind (·.zero) = some (.slice none 0 0) := by kernel_rfl
theorem FPack.slu61 : Try.prog.underlying 61 = some (.slice 23) := by kernel_rfl
theorem FPack.el23 : elD Try.prog 23 = some (1, 1, some (VU .u8 0#8)) := by kernel_rfl
theorem FPack.call88 : callB Try.prog 88 = true := by kernel_rfl
theorem FPack.pl25 : placesB Try.prog 25 [(0, 1), (1, 1), (2, 1)] = true := by kernel_rfl
theorem FPack.call63 : callB Try.prog 63 = true := by kernel_rfl
theorem FPack.call62 : callB Try.prog 62 = true := by kernel_rfl
theorem FPack.call26 : callB Try.prog 26 = true := by kernel_rfl
theorem FPack.el43 : elD Try.prog 43 = some (1, 8, some (.int .i64 0)) := by kernel_rfl
theorem FPack.row25 : rowB Try.prog 25 = true := by kernel_rfl
theorem FPack.sc5 : scalarT Try.prog 5 = true := by kernel_rfl
theorem FPack.some5 : (Try.prog.underlying 5).isSome = true := by kernel_rfl
theorem FPack.call64 : callB Try.prog 64 = true := by kernel_rfl
theorem FPack.call65 : callB Try.prog 65 = true := by kernel_rfl

set_option maxRecDepth 8000 in
set_option maxHeartbeats 1000000 in
theorem pack_Compare_ok {B : Nat} {w0 w : World} {L : List Rg} {aTable1 : Int} {aKey2 : List Byte} {aaKey2 : Option Addr} {naKey2 caKey2 iaKey2 : Nat} (haKey2 : Bx L iaKey2 aaKey2 naKey2 caKey2 aKey2) {aValue3 : List Byte} {aaValue3 : Option Addr} {naValue3 caValue3 iaValue3 : Nat} (haValue3 : Bx L iaValue3 aaValue3 naValue3 caValue3 aValue3) {bTable4 : Int} {bKey5 : List Byte} {abKey5 : Option Addr} {nbKey5 cbKey5 ibKey5 : Nat} (hbKey5 : Bx L ibKey5 abKey5 nbKey5 cbKey5 bKey5) {bValue6 : List Byte} {abValue6 : Option Addr} {nbValue6 cbValue6 ibValue6 : Nat} (hbValue6 : Bx L ibValue6 abValue6 nbValue6 cbValue6 bValue6) {r : Int} (hR : pack_Compare aTable1 aKey2 aValue3 bTable4 bKey5 bValue6 r) (HST : St B w0 (L) w) :
    Calls Try.prog 16 #[AG [(1, fun _ => .int .i64 aTable1), (1, fun _ => .slice aaKey2 naKey2 caKey2), (1, fun _ => .slice aaValue3 naValue3 caValue3)], AG [(1, fun _ => .int .i64 bTable4), (1, fun _ => .slice abKey5 nbKey5 cbKey5), (1, fun _ => .slice abValue6 nbValue6 cbValue6)]] w fun e w' => e = .returned (.int .i64 r) ∧ St B w0 (L) w' := by
  refine W.enter 17 Try.func16 rfl rfl rfl ?_
  unfold pack_Compare at hR
  have eaKey2 := haKey2.hl; subst eaKey2
  have eaValue3 := haValue3.hl; subst eaValue3
  have ebKey5 := hbKey5.hl; subst ebKey5
  have ebValue6 := hbValue6.hl; subst ebValue6
  refine W.seq_k fun K7 hK7 => ?_
  refine W.regionT [(0, false), (1, false), (2, true)] (by kernel_rfl) ?_
  refine Plan.boxA HST rfl rfl PIn.nil fun b8 w8 hb8 h8 => ?_
  simp only [rngs, Nat.zero_add, Nat.reduceAdd, List.cons_append, List.nil_append] at h8
  refine Plan.boxA h8 rfl rfl PIn.nil fun b9 w9 hb9 h9 => ?_
  simp only [rngs, Nat.zero_add, Nat.reduceAdd, List.cons_append, List.nil_append] at h9
  refine Plan.assign_int rfl rfl ?_
  refine Plan.nil ?_
  refine hK7 _ _ ?_; clear hK7
  refine W.seq_k fun K10 hK10 => ?_
  refine W.regionD FPack.mixed [(0, true), (1, true), (2, true), (3, true), (5, true), (6, true), (7, true), (8, true), (4, false), (9, false), (10, false), (11, false), (12, true)] (by kernel_rfl) ?_
  have h11 := h9.drew
  refine Plan.fieldAddr0 FPack.fld25_0 rfl rfl ?_
  refine Plan.load0 h11 3 rfl rfl rfl (by omega) FPack.sc3 ?_
  refine Plan.fieldAddr0 FPack.fld25_0 rfl rfl ?_
  refine Plan.load0 h11 0 rfl rfl rfl (by omega) FPack.sc3 ?_
  refine Plan.fieldAddr 1 FPack.fld25_1 rfl rfl ?_
  refine Plan.load0 h11 4 rfl rfl rfl (by omega) FPack.sc23 ?_
  refine Plan.fieldAddr 1 FPack.fld25_1 rfl rfl ?_
  refine Plan.load0 h11 1 rfl rfl rfl (by omega) FPack.sc23 ?_
  obtain ⟨x_13, hr12, hR⟩ := hR
  refine Plan.call (vs := [.int .i64 aTable1, .int .i64 bTable4]) rfl FPack.call57 rfl (cmp_Compare_int_ok  hr12 h11) ?_
  rintro _ w14 ⟨rfl, h14⟩
  refine ⟨_, rfl, .inl ⟨PIn.keep (PIn.cons 1 rfl (PIn.cons 4 rfl (PIn.cons 0 rfl (PIn.cons 3 rfl PIn.nil)))) h14, ?_⟩⟩
  obtain ⟨x_16, hr15, hR⟩ := hR
  refine Plan.call (vs := [.slice aaKey2 aKey2.length caKey2, .slice abKey5 bKey5.length cbKey5]) rfl FPack.call58 rfl (bytes_Compare_ok (haKey2.app [_, _, _, _, _, _]) (hbKey5.app [_, _, _, _, _, _]) hr15 h14) ?_
  rintro _ w17 ⟨rfl, h17⟩
  refine ⟨_, rfl, .inl ⟨PIn.keep (PIn.cons 1 rfl (PIn.cons 4 rfl (PIn.cons 0 rfl (PIn.cons 3 rfl PIn.nil)))) h17, ?_⟩⟩
  refine Plan.buildLO (D := D3) (sz := 1) h17 [((), x_13), ((), x_16)] FPack.slu43 FPack.sz3 FPack.zv3 (by decide) (by decide) rfl rfl rfl rfl (fun _ _ => trivial) (EffO.keep (PIn.cons 1 rfl (PIn.cons 4 rfl (PIn.cons 0 rfl (PIn.cons 3 rfl PIn.nil))))) fun b19 w19 F19 hb19 ho19 h19 => ?_
  replace ho19 : LO D3 [] (some ⟨b19, 0, none⟩) (some b19) ([x_13, x_16] : List Int).length 2 F19 ([x_13, x_16] : List Int) := ho19.re (fun _ _ h => h)
  obtain ⟨x_21, hr20, hR⟩ := hR
  refine Plan.call (vs := [.slice (some ⟨b19, 0, none⟩) (([x_13, x_16] : List Int).length) 2]) rfl FPack.call56 rfl (cmp_Or_int_ok (by exact (LO.lvf D3_flat ho19 0 rfl)) hr20 h19) ?_
  rintro _ w22 ⟨rfl, h22⟩
  refine ⟨_, rfl, .inl ⟨PIn.keep (PIn.cons 2 rfl (PIn.cons 5 rfl (PIn.cons 1 rfl (PIn.cons 4 rfl PIn.nil)))) h22, ?_⟩⟩
  refine Plan.assign_int rfl rfl ?_
  refine Plan.nil ?_
  refine hK10 _ _ ?_; clear hK10
  refine W.ret (finR_ret ?_)
  have h23 := St.pickT (C := [_, _, _, _, _, _, _]) h22 [] (by decide)
  simp only [pick, List.filterMap_cons, List.filterMap_nil, List.getElem?_cons_zero, List.getElem?_cons_succ, List.cons_append, List.nil_append] at h23
  subst r
  refine RetOk.mk (.tmp_int rfl .nil) ?_
  exact ⟨rfl, h23⟩


set_option maxRecDepth 8000 in
set_option maxHeartbeats 1000000 in
theorem pack_Check_ok {B : Nat} {w0 w : World} {L : List Rg} {rTable1 : Int} {rKey2 : List Byte} {arKey2 : Option Addr} {nrKey2 crKey2 irKey2 : Nat} (hrKey2 : Bx L irKey2 arKey2 nrKey2 crKey2 rKey2) {rValue3 : List Byte} {arValue3 : Option Addr} {nrValue3 crValue3 irValue3 : Nat} (hrValue3 : Bx L irValue3 arValue3 nrValue3 crValue3 rValue3) {r : Nat} (hR : pack_Check rTable1 rKey2 rValue3 r) (HST : St B w0 (L) w) :
    Calls Try.prog 59 #[AG [(1, fun _ => .int .i64 rTable1), (1, fun _ => .slice arKey2 nrKey2 crKey2), (1, fun _ => .slice arValue3 nrValue3 crValue3)]] w fun e w' => e = .returned (VN r) ∧ St B w0 (L) w' := by
  refine W.enter 29 Try.func59 rfl rfl rfl ?_
  unfold pack_Check at hR
  have erKey2 := hrKey2.hl; subst erKey2
  have erValue3 := hrValue3.hl; subst erValue3
  refine W.seq_k fun K4 hK4 => ?_
  refine W.regionT [(0, false), (1, true)] (by kernel_rfl) ?_
  refine Plan.boxA HST rfl rfl PIn.nil fun b5 w5 hb5 h5 => ?_
  simp only [rngs, Nat.zero_add, Nat.reduceAdd, List.cons_append, List.nil_append] at h5
  refine Plan.assign_int rfl rfl ?_
  refine Plan.nil ?_
  refine hK4 _ _ ?_; clear hK4
  refine W.seq_k fun K6 hK6 => ?_
  refine W.seq_k fun K7 hK7 => ?_
  obtain ⟨t12, hX13, hR013⟩ := hR
  refine W.cutN (fun e w => ∃ y_t12 : Bool, (t12 = y_t12) ∧ EnvHas e [(28, .bool y_t12)] ∧ St B w0 (L) w) ?_ ?_
  ·
    replace hR := hX13
    refine W.regionT [(0, true), (1, true), (2, true), (3, true), (4, true), (5, true), (6, true), (7, true), (8, true), (9, true), (10, true), (11, true), (12, true), (13, true), (14, true), (15, true), (16, true), (17, true), (18, true), (19, true), (20, true), (21, true), (22, true), (23, true), (24, true), (25, true)] (by kernel_rfl) ?_
    refine Plan.fieldAddr0 FPack.fld25_0 rfl rfl ?_
    refine Plan.load0 h5 0 rfl rfl rfl (by omega) FPack.sc3 ?_
    by_cases hc14 : rTable1 < 0
    ·
      replace hR := ifT hR hc14
      refine Plan.cmpV (a := (rTable1 : Int)) (b := (0 : Int)) (p := rTable1 < 0) (v := true) rfl rfl rfl rfl icmp_lt (decide_eq_true hc14) ?_
      refine Plan.move_bool rfl rfl ?_
      refine Plan.passed rfl ?_
      refine Plan.passed rfl ?_
      refine Plan.passed rfl ?_
      refine Plan.pickTb rfl rfl rfl ?_
      refine Plan.move_bool rfl rfl ?_
      refine Plan.passed rfl ?_
      refine Plan.passed rfl ?_
      refine Plan.passed rfl ?_
      refine Plan.passed rfl ?_
      refine Plan.pickTb rfl rfl rfl ?_
      refine Plan.move_bool rfl rfl ?_
      refine Plan.passed rfl ?_
      refine Plan.passed rfl ?_
      refine Plan.passed rfl ?_
      refine Plan.passed rfl ?_
      refine Plan.pickTb rfl rfl rfl ?_
      refine Plan.move_bool rfl rfl ?_
      refine Plan.passed rfl ?_
      refine Plan.passed rfl ?_
      refine Plan.passed rfl ?_
      refine Plan.passed rfl ?_
      refine Plan.pickTb rfl rfl rfl ?_
      refine Plan.nil ?_
      have h15 := St.pickT (C := [_, _, _]) h5 [] (by decide)
      simp only [pick, List.filterMap_cons, List.filterMap_nil, List.getElem?_cons_zero, List.getElem?_cons_succ, List.cons_append, List.nil_append] at h15
      exact ⟨true, hR, (EnvHas.cons rfl EnvHas.nil), h15⟩
    ·
      replace hR := ifF hR hc14
      refine Plan.cmpV (a := (rTable1 : Int)) (b := (0 : Int)) (p := rTable1 < 0) (v := false) rfl rfl rfl rfl icmp_lt (decide_eq_false hc14) ?_
      refine Plan.move_bool rfl rfl ?_
      refine Plan.fieldAddr0 FPack.fld25_0 rfl rfl ?_
      refine Plan.load0 h5 0 rfl rfl rfl (by omega) FPack.sc3 ?_
      by_cases hc16 : 15 < rTable1
      ·
        replace hR := ifT hR hc16
        refine Plan.cmpV (a := (rTable1 : Int)) (b := (15 : Int)) (p := 15 < rTable1) (v := true) rfl rfl rfl rfl icmp_gt (decide_eq_true hc16) ?_
        refine Plan.pickFb rfl rfl rfl ?_
        refine Plan.move_bool rfl rfl ?_
        refine Plan.passed rfl ?_
        refine Plan.passed rfl ?_
        refine Plan.passed rfl ?_
        refine Plan.passed rfl ?_
        refine Plan.pickTb rfl rfl rfl ?_
        refine Plan.move_bool rfl rfl ?_
        refine Plan.passed rfl ?_
        refine Plan.passed rfl ?_
        refine Plan.passed rfl ?_
        refine Plan.passed rfl ?_
        refine Plan.pickTb rfl rfl rfl ?_
        refine Plan.move_bool rfl rfl ?_
        refine Plan.passed rfl ?_
        refine Plan.passed rfl ?_
        refine Plan.passed rfl ?_
        refine Plan.passed rfl ?_
        refine Plan.pickTb rfl rfl rfl ?_
        refine Plan.nil ?_
        have h17 := St.pickT (C := [_, _, _]) h5 [] (by decide)
        simp only [pick, List.filterMap_cons, List.filterMap_nil, List.getElem?_cons_zero, List.getElem?_cons_succ, List.cons_append, List.nil_append] at h17
        exact ⟨true, hR, (EnvHas.cons rfl EnvHas.nil), h17⟩
      ·
        replace hR := ifF hR hc16
        refine Plan.cmpV (a := (rTable1 : Int)) (b := (15 : Int)) (p := 15 < rTable1) (v := false) rfl rfl rfl rfl icmp_gt (decide_eq_false hc16) ?_
        refine Plan.pickFb rfl rfl rfl ?_
        refine Plan.move_bool rfl rfl ?_
        refine Plan.fieldAddr 1 FPack.fld25_1 rfl rfl ?_
        refine Plan.load0 h5 1 rfl rfl rfl (by omega) FPack.sc23 ?_
        refine Plan.len FPack.isl23 rfl rfl ?_
        by_cases hc18 : rKey2.length < 1
        ·
          replace hR := ifT hR hc18
          refine Plan.cmpV (a := (((rKey2.length : Nat) : Int) : Int)) (b := (1 : Int)) (p := rKey2.length < 1) (v := true) rfl rfl rfl rfl icmp_ltN (decide_eq_true hc18) ?_
          refine Plan.pickFb rfl rfl rfl ?_
          refine Plan.move_bool rfl rfl ?_
          refine Plan.passed rfl ?_
          refine Plan.passed rfl ?_
          refine Plan.passed rfl ?_
          refine Plan.passed rfl ?_
          refine Plan.pickTb rfl rfl rfl ?_
          refine Plan.move_bool rfl rfl ?_
          refine Plan.passed rfl ?_
          refine Plan.passed rfl ?_
          refine Plan.passed rfl ?_
          refine Plan.passed rfl ?_
          refine Plan.pickTb rfl rfl rfl ?_
          refine Plan.nil ?_
          have h19 := St.pickT (C := [_, _, _]) h5 [] (by decide)
          simp only [pick, List.filterMap_cons, List.filterMap_nil, List.getElem?_cons_zero, List.getElem?_cons_succ, List.cons_append, List.nil_append] at h19
          exact ⟨true, hR, (EnvHas.cons rfl EnvHas.nil), h19⟩
        ·
          replace hR := ifF hR hc18
          refine Plan.cmpV (a := (((rKey2.length : Nat) : Int) : Int)) (b := (1 : Int)) (p := rKey2.length < 1) (v := false) rfl rfl rfl rfl icmp_ltN (decide_eq_false hc18) ?_
          refine Plan.pickFb rfl rfl rfl ?_
          refine Plan.move_bool rfl rfl ?_
          refine Plan.fieldAddr 1 FPack.fld25_1 rfl rfl ?_
          refine Plan.load0 h5 1 rfl rfl rfl (by omega) FPack.sc23 ?_
          refine Plan.len FPack.isl23 rfl rfl ?_
          by_cases hc20 : 64 < rKey2.length
          ·
            replace hR := ifT hR hc20
            refine Plan.cmpV (a := (((rKey2.length : Nat) : Int) : Int)) (b := (64 : Int)) (p := 64 < rKey2.length) (v := true) rfl rfl rfl rfl icmp_gtN (decide_eq_true hc20) ?_
            refine Plan.pickFb rfl rfl rfl ?_
            refine Plan.move_bool rfl rfl ?_
            refine Plan.passed rfl ?_
            refine Plan.passed rfl ?_
            refine Plan.passed rfl ?_
            refine Plan.passed rfl ?_
            refine Plan.pickTb rfl rfl rfl ?_
            refine Plan.nil ?_
            have h21 := St.pickT (C := [_, _, _]) h5 [] (by decide)
            simp only [pick, List.filterMap_cons, List.filterMap_nil, List.getElem?_cons_zero, List.getElem?_cons_succ, List.cons_append, List.nil_append] at h21
            exact ⟨true, hR, (EnvHas.cons rfl EnvHas.nil), h21⟩
          ·
            replace hR := ifF hR hc20
            refine Plan.cmpV (a := (((rKey2.length : Nat) : Int) : Int)) (b := (64 : Int)) (p := 64 < rKey2.length) (v := false) rfl rfl rfl rfl icmp_gtN (decide_eq_false hc20) ?_
            refine Plan.pickFb rfl rfl rfl ?_
            refine Plan.move_bool rfl rfl ?_
            refine Plan.fieldAddr 2 FPack.fld25_2 rfl rfl ?_
            refine Plan.load0 h5 2 rfl rfl rfl (by omega) FPack.sc23 ?_
            refine Plan.len FPack.isl23 rfl rfl ?_
            refine Plan.cmpP (a := (((rValue3.length : Nat) : Int) : Int)) (b := (900 : Int)) (p := 900 < rValue3.length) rfl rfl rfl rfl icmp_gtN ?_
            refine Plan.pickFb rfl rfl rfl ?_
            refine Plan.nil ?_
            have h22 := St.pickT (C := [_, _, _]) h5 [] (by decide)
            simp only [pick, List.filterMap_cons, List.filterMap_nil, List.getElem?_cons_zero, List.getElem?_cons_succ, List.cons_append, List.nil_append] at h22
            exact ⟨(decide (900 < rValue3.length)), hR, (EnvHas.cons rfl EnvHas.nil), h22⟩
  ·
    rintro ev23 wl23 ⟨y_t12, hy23_0, he23, h23⟩
    subst hy23_0
    obtain ⟨ev23, rfl⟩ := he23.open
    replace hR := hR013
    refine hK7 _ _ ?_; clear hK7
    by_cases hc24 : t12 = true
    ·
      replace hR := ifT hR hc24
      refine W.condT (congrArg Value.bool hc24) ?_
      refine W.seq_k fun K25 hK25 => ?_
      refine W.regionT [(0, true)] (by kernel_rfl) ?_
      refine Plan.assign_int rfl rfl ?_
      refine Plan.nil ?_
      refine hK25 _ _ ?_; clear hK25
      refine W.ret (thenR_ret (finR_ret ?_))
      subst r
      refine RetOk.mk (.tmp_int rfl .nil) ?_
      exact ⟨rfl, h23⟩
    ·
      replace hR := ifF hR hc24
      refine W.condF (congrArg Value.bool (Bool.eq_false_iff.2 hc24)) ?_
      refine W.skip ?_
      refine hK6 _ _ ?_; clear hK6
      refine W.seq_k fun K26 hK26 => ?_
      refine W.regionT [(0, true)] (by kernel_rfl) ?_
      refine Plan.assign_int rfl rfl ?_
      refine Plan.nil ?_
      refine hK26 _ _ ?_; clear hK26
      refine W.ret (finR_ret ?_)
      subst r
      refine RetOk.mk (.tmp_int rfl .nil) ?_
      exact ⟨rfl, h23⟩


set_option maxRecDepth 8000 in
set_option maxHeartbeats 1000000 in
theorem pack_records_ok {B : Nat} {w0 w : World} {L : List Rg} {list1 : List (Int × (List Byte) × (List Byte))} {alist1 : Option Addr} {nlist1 clist1 ilist1 : Nat} (hlist1 : LV (D25.at L) L ilist1 alist1 nlist1 clist1 list1) {r : Nat} (hR : pack_records list1 r) (HST : St B w0 (L) w) :
    Calls Try.prog 85 #[.slice alist1 nlist1 clist1] w fun e w' => e = .returned (VN r) ∧ St B w0 (L) w' := by
  refine W.enter 18 Try.func85 rfl rfl rfl ?_
  unfold pack_records at hR
  have elist1 := hlist1.hl; subst elist1
  refine W.seq_k fun K2 hK2 => ?_
  refine W.regionT [(0, true)] (by kernel_rfl) ?_
  refine Plan.assign_int rfl rfl ?_
  refine Plan.nil ?_
  refine hK2 _ _ ?_; clear hK2
  refine W.seq_k fun K3 hK3 => ?_
  refine W.seq_k fun K4 hK4 => ?_
  refine W.regionT [(0, true), (1, true), (2, true)] (by kernel_rfl) ?_
  refine Plan.move_slice rfl rfl ?_
  refine Plan.len FPack.isl22 rfl rfl ?_
  refine Plan.move_int rfl rfl ?_
  refine Plan.nil ?_
  refine hK4 _ _ ?_; clear hK4
  obtain ⟨x40, hI40, hR040⟩ := hR
  refine W.cutN (fun e w => x40 = some () ∧ EnvHas e [] ∧ St B w0 (L) w) ?_ ?_
  ·
    refine W.block ?_
    refine W.iter hI40 (fun (s40 : Nat) e w => EnvHas e [(6, .slice alist1 list1.length clist1), (7, VN list1.length), (8, VN s40)] ∧ St B w0 (L) w) ⟨(EnvHas.cons rfl (EnvHas.cons rfl (EnvHas.cons rfl EnvHas.nil))), HST⟩ ?_
    rintro t39 o40 hR hx40 ev41 wl41 ⟨he41, h41⟩
    obtain ⟨ev41, rfl⟩ := he41.open
    unfold pack_records_l0 at hR
    refine W.seq_k fun K42 hK42 => ?_
    refine W.regionT [(0, true)] (by kernel_rfl) ?_
    refine Plan.cmpP (a := (((t39 : Nat) : Int) : Int)) (b := (((list1.length : Nat) : Int) : Int)) (p := t39 < list1.length) rfl rfl rfl rfl icmp_ltN ?_
    refine Plan.nil ?_
    refine hK42 _ _ ?_; clear hK42
    refine W.seq_k fun K43 hK43 => ?_
    by_cases hc44 : t39 < list1.length
    ·
      replace hR := ifT hR hc44
      refine W.condT (congrArg Value.bool (decide_eq_true hc44)) ?_
      refine W.skip ?_
      refine hK43 _ _ ?_; clear hK43
      refine W.seq_k fun K45 hK45 => ?_
      refine W.block ?_
      refine W.seq_k fun K46 hK46 => ?_
      refine W.regionT [(0, true), (1, true), (2, false), (3, false)] (by kernel_rfl) ?_
      obtain ⟨hc47, hR⟩ := hR
      refine Plan.idxLVS (D := (D25.at L)) (j := t39) h41 hlist1 FPack.sl22 rfl rfl rfl hc47 ?_
      refine Plan.loadLV (D := (D25.at L)) (X := list1) (j := t39) (sz := 3) h41 ((0 : Int), ([] : List Byte), ([] : List Byte)) hlist1 rfl rfl hc47 rfl FPack.agg25 fun b48 r48 hs48 hr48 => ?_
      obtain ⟨⟨i48_1, hv48_1⟩, ⟨i48_2, hv48_2⟩⟩ := hs48
      refine Plan.alloc h41 rfl FPack.z25 (PIn.cons (ilist1 + 0) hr48 PIn.nil) fun b49 w49 hb49 h49 => ?_
      simp only [rngs, Nat.zero_add, Nat.reduceAdd, List.cons_append, List.nil_append] at h49
      refine Plan.storeP (ps := [(1, fun _ => .int .i64 ((list1.getD t39 ((0 : Int), ([] : List Byte), ([] : List Byte))).1)), (1, fun _ => .slice ((b48.1).1) (((list1.getD t39 ((0 : Int), ([] : List Byte), ([] : List Byte))).2.1).length) ((b48.1).2)), (1, fun _ => .slice ((b48.2).1) (((list1.getD t39 ((0 : Int), ([] : List Byte), ([] : List Byte))).2.2).length) ((b48.2).2))]) h49 rfl rfl rfl (.cons 0 rfl (.cons 1 rfl (.cons 2 rfl .nil))) ⟨fun _ _ => rfl, fun _ _ => rfl, fun _ _ => rfl, trivial⟩ FPack.sz25 (EffO.wait rfl) fun w50 h50 => ?_
      simp only [List.cons_append, List.nil_append, List.set_cons_zero, List.set_cons_succ] at h50
      refine Plan.nil ?_
      refine hK46 _ _ ?_; clear hK46
      refine W.seq_k fun K51 hK51 => ?_
      refine W.regionT [(0, true), (1, false), (2, true)] (by kernel_rfl) ?_
      refine Plan.loadA h50 rfl rfl (.cons 0 rfl (.cons 1 rfl (.cons 2 rfl .nil))) FPack.agg25 ?_
      obtain ⟨x_53, hr52, hR⟩ := hR
      refine Plan.call (vs := [AG [(1, fun _ => .int .i64 ((list1.getD t39 ((0 : Int), ([] : List Byte), ([] : List Byte))).1)), (1, fun _ => .slice ((b48.1).1) (((list1.getD t39 ((0 : Int), ([] : List Byte), ([] : List Byte))).2.1).length) ((b48.1).2)), (1, fun _ => .slice ((b48.2).1) (((list1.getD t39 ((0 : Int), ([] : List Byte), ([] : List Byte))).2.2).length) ((b48.2).2))]]) rfl FPack.call59 rfl (pack_Check_ok (hv48_1.app [_, _, _]) (hv48_2.app [_, _, _]) hr52 h50) ?_
      rintro _ w54 ⟨rfl, h54⟩
      refine ⟨_, rfl, .inr ⟨rfl, ?_⟩⟩
      refine Plan.assign_int rfl rfl ?_
      refine Plan.nil ?_
      refine hK51 _ _ ?_; clear hK51
      refine W.seq_k fun K55 hK55 => ?_
      refine W.regionT [(0, true), (1, true)] (by kernel_rfl) ?_
      refine Plan.move_int rfl rfl ?_
      refine Plan.cmpP (a := (((x_53 : Nat) : Int) : Int)) (b := (0 : Int)) (p := x_53 ≠ 0) rfl rfl rfl rfl icmp_neN ?_
      refine Plan.nil ?_
      refine hK55 _ _ ?_; clear hK55
      by_cases hc56 : x_53 ≠ 0
      ·
        replace hR := ifT hR hc56
        refine W.condT (congrArg Value.bool (decide_eq_true hc56)) ?_
        refine W.seq_k fun K57 hK57 => ?_
        refine W.regionT [(0, true), (1, true)] (by kernel_rfl) ?_
        refine Plan.move_int rfl rfl ?_
        refine Plan.assign_int rfl rfl ?_
        refine Plan.nil ?_
        refine hK57 _ _ ?_; clear hK57
        refine W.ret (blockR_ret (thenR_ret (iterR_ret (blockR_ret (thenR_ret (thenR_ret (finR_ret ?_)))))))
        have h58 := St.pickT (C := [_, _, _]) h54 [] (by decide)
        simp only [pick, List.filterMap_cons, List.filterMap_nil, List.getElem?_cons_zero, List.getElem?_cons_succ, List.cons_append, List.nil_append] at h58
        replace hR := hR.2
        subst r
        refine RetOk.mk (.tmp_int rfl .nil) ?_
        exact ⟨rfl, h58⟩
      ·
        replace hR := ifF hR hc56
        refine W.condF (congrArg Value.bool (decide_eq_false hc56)) ?_
        refine W.skip ?_
        refine blockR_norm ?_
        refine hK45 _ _ ?_; clear hK45
        refine W.regionT [(0, true), (1, true)] (by kernel_rfl) ?_
        obtain ⟨hc59, hR⟩ := hR
        refine Plan.addN (a := t39) (b := 1) rfl rfl rfl (by omega) ?_
        refine Plan.move_int rfl rfl ?_
        refine Plan.nil ?_
        have h60 := St.pickT (C := [_, _, _]) h54 [] (by decide)
        simp only [pick, List.filterMap_cons, List.filterMap_nil, List.getElem?_cons_zero, List.getElem?_cons_succ, List.cons_append, List.nil_append] at h60
        exact iterR_norm ⟨_, hR, (EnvHas.cons rfl (EnvHas.cons rfl (EnvHas.cons rfl EnvHas.nil))), h60⟩
    ·
      replace hR := ifF hR hc44
      refine W.condF (congrArg Value.bool (decide_eq_false hc44)) ?_
      refine W.exit (thenR_exit (iterR_exit (blockR_here ?_)))
      exact ⟨(hx40 _ hR).symm, EnvHas.nil, h41⟩
  ·
    rintro ev61 wl61 ⟨hy61, he61, h61⟩
    obtain ⟨ev61, rfl⟩ := he61.open
    replace hR := hR040  hy61
    refine hK3 _ _ ?_; clear hK3
    refine W.seq_k fun K62 hK62 => ?_
    refine W.regionT [(0, true)] (by kernel_rfl) ?_
    refine Plan.assign_int rfl rfl ?_
    refine Plan.nil ?_
    refine hK62 _ _ ?_; clear hK62
    refine W.ret (finR_ret ?_)
    subst r
    refine RetOk.mk (.tmp_int rfl .nil) ?_
    exact ⟨rfl, h61⟩


set_option maxRecDepth 8000 in
set_option maxHeartbeats 1000000 in
theorem pack_sorted_ok {B : Nat} {w0 w : World} {L : List Rg} {list1 : List (Int × (List Byte) × (List Byte))} {alist1 : Option Addr} {nlist1 clist1 ilist1 : Nat} (hlist1 : LV (D25.at L) L ilist1 alist1 nlist1 clist1 list1) {r : Nat} (hR : pack_sorted list1 r) (HST : St B w0 (L) w) :
    Calls Try.prog 60 #[.slice alist1 nlist1 clist1] w fun e w' => e = .returned (VN r) ∧ St B w0 (L) w' := by
  refine W.enter 27 Try.func60 rfl rfl rfl ?_
  unfold pack_sorted at hR
  have elist1 := hlist1.hl; subst elist1
  refine W.seq_k fun K2 hK2 => ?_
  refine W.regionT [(0, true)] (by kernel_rfl) ?_
  refine Plan.assign_int rfl rfl ?_
  refine Plan.nil ?_
  refine hK2 _ _ ?_; clear hK2
  refine W.seq_k fun K3 hK3 => ?_
  refine W.seq_k fun K4 hK4 => ?_
  refine W.regionT [(0, true), (1, false), (2, true)] (by kernel_rfl) ?_
  refine Plan.move_slice rfl rfl ?_
  obtain ⟨x_6, hr5, hR⟩ := hR
  refine Plan.call (vs := [.slice alist1 list1.length clist1]) rfl FPack.call85 rfl (pack_records_ok (by exact (LV.grow D25_lifts (fun r hr => List.mem_append_right [] ((fun _ h => h) r hr)) hlist1)) hr5 HST) ?_
  rintro _ w7 ⟨rfl, h7⟩
  refine ⟨_, rfl, .inl ⟨PIn.keep PIn.nil h7, ?_⟩⟩
  refine Plan.assign_int rfl rfl ?_
  refine Plan.nil ?_
  refine hK4 _ _ ?_; clear hK4
  refine W.seq_k fun K8 hK8 => ?_
  refine W.regionT [(0, true), (1, true)] (by kernel_rfl) ?_
  refine Plan.move_int rfl rfl ?_
  refine Plan.cmpP (a := (((x_6 : Nat) : Int) : Int)) (b := (0 : Int)) (p := x_6 ≠ 0) rfl rfl rfl rfl icmp_neN ?_
  refine Plan.nil ?_
  refine hK8 _ _ ?_; clear hK8
  by_cases hc9 : x_6 ≠ 0
  ·
    replace hR := ifT hR hc9
    refine W.condT (congrArg Value.bool (decide_eq_true hc9)) ?_
    refine W.seq_k fun K10 hK10 => ?_
    refine W.regionT [(0, true), (1, true)] (by kernel_rfl) ?_
    refine Plan.move_int rfl rfl ?_
    refine Plan.assign_int rfl rfl ?_
    refine Plan.nil ?_
    refine hK10 _ _ ?_; clear hK10
    refine W.ret (thenR_ret (finR_ret ?_))
    subst r
    refine RetOk.mk (.tmp_int rfl .nil) ?_
    exact ⟨rfl, h7⟩
  ·
    replace hR := ifF hR hc9
    refine W.condF (congrArg Value.bool (decide_eq_false hc9)) ?_
    refine W.skip ?_
    refine hK3 _ _ ?_; clear hK3
    refine W.seq_k fun K11 hK11 => ?_
    refine W.seq_k fun K12 hK12 => ?_
    refine W.regionT [(0, true)] (by kernel_rfl) ?_
    refine Plan.assign_int rfl rfl ?_
    refine Plan.nil ?_
    refine hK12 _ _ ?_; clear hK12
    obtain ⟨x47, hI47, hR047⟩ := hR
    refine W.cutN (fun e w => x47 = some () ∧ EnvHas e [] ∧ St B w0 (L) w) ?_ ?_
    ·
      refine W.block ?_
      refine W.iter hI47 (fun (s47 : Nat) e w => EnvHas e [(0, .slice alist1 list1.length clist1), (4, VN s47)] ∧ St B w0 (L) w) ⟨(EnvHas.cons rfl (EnvHas.cons rfl EnvHas.nil)), h7⟩ ?_
      rintro i_46 o47 hR hx47 ev48 wl48 ⟨he48, h48⟩
      obtain ⟨ev48, rfl⟩ := he48.open
      unfold pack_sorted_l0 at hR
      refine W.seq_k fun K49 hK49 => ?_
      refine W.seq_k fun K50 hK50 => ?_
      refine W.regionT [(0, true), (1, true), (2, true), (3, true)] (by kernel_rfl) ?_
      refine Plan.move_int rfl rfl ?_
      refine Plan.move_slice rfl rfl ?_
      refine Plan.len FPack.isl22 rfl rfl ?_
      refine Plan.cmpP (a := (((i_46 : Nat) : Int) : Int)) (b := (((list1.length : Nat) : Int) : Int)) (p := i_46 < list1.length) rfl rfl rfl rfl icmp_ltN ?_
      refine Plan.nil ?_
      refine hK50 _ _ ?_; clear hK50
      by_cases hc51 : i_46 < list1.length
      ·
        replace hR := ifT hR hc51
        refine W.condT (congrArg Value.bool (decide_eq_true hc51)) ?_
        refine W.skip ?_
        refine hK49 _ _ ?_; clear hK49
        refine W.seq_k fun K52 hK52 => ?_
        refine W.block ?_
        refine W.seq_k fun K53 hK53 => ?_
        refine W.regionD FPack.mixed [(0, true), (1, true), (2, true), (3, true), (4, true), (5, true), (6, true), (7, true), (8, true), (9, false), (10, true)] (by kernel_rfl) ?_
        have h54 := h48.drew
        refine Plan.move_slice rfl rfl ?_
        refine Plan.move_int rfl rfl ?_
        obtain ⟨hc55, hR⟩ := hR
        refine Plan.subI (a := ((i_46 : Nat) : Int)) (b := 1) rfl rfl rfl (by omega) ?_
        obtain ⟨hc56, hR⟩ := hR
        refine Plan.idxLVS (D := (D25.at L)) (j := (((i_46 : Nat) : Int) - 1).toNat) h54 hlist1 FPack.sl22 rfl rfl (congrArg (Value.int .i64) (Int.toNat_of_nonneg hc56.1).symm) (toNat_lt hc56.1 hc56.2) ?_
        refine Plan.loadLV (D := (D25.at L)) (X := list1) (j := (((i_46 : Nat) : Int) - 1).toNat) (sz := 3) h54 ((0 : Int), ([] : List Byte), ([] : List Byte)) hlist1 rfl rfl (toNat_lt hc56.1 hc56.2) rfl FPack.agg25 fun b57 r57 hs57 hr57 => ?_
        obtain ⟨⟨i57_1, hv57_1⟩, ⟨i57_2, hv57_2⟩⟩ := hs57
        refine Plan.move_slice rfl rfl ?_
        refine Plan.move_int rfl rfl ?_
        obtain ⟨hc58, hR⟩ := hR
        refine Plan.idxLVS (D := (D25.at L)) (j := i_46) h54 hlist1 FPack.sl22 rfl rfl rfl hc58 ?_
        refine Plan.loadLV (D := (D25.at L)) (X := list1) (j := i_46) (sz := 3) h54 ((0 : Int), ([] : List Byte), ([] : List Byte)) hlist1 rfl rfl hc58 rfl FPack.agg25 fun b59 r59 hs59 hr59 => ?_
        obtain ⟨⟨i59_1, hv59_1⟩, ⟨i59_2, hv59_2⟩⟩ := hs59
        obtain ⟨x_61, hr60, hR⟩ := hR
        refine Plan.call (vs := [AG [(1, fun _ => .int .i64 ((list1.getD ((((i_46 : Nat) : Int) - 1).toNat) ((0 : Int), ([] : List Byte), ([] : List Byte))).1)), (1, fun _ => .slice ((b57.1).1) (((list1.getD ((((i_46 : Nat) : Int) - 1).toNat) ((0 : Int), ([] : List Byte), ([] : List Byte))).2.1).length) ((b57.1).2)), (1, fun _ => .slice ((b57.2).1) (((list1.getD ((((i_46 : Nat) : Int) - 1).toNat) ((0 : Int), ([] : List Byte), ([] : List Byte))).2.2).length) ((b57.2).2))], AG [(1, fun _ => .int .i64 ((list1.getD i_46 ((0 : Int), ([] : List Byte), ([] : List Byte))).1)), (1, fun _ => .slice ((b59.1).1) (((list1.getD i_46 ((0 : Int), ([] : List Byte), ([] : List Byte))).2.1).length) ((b59.1).2)), (1, fun _ => .slice ((b59.2).1) (((list1.getD i_46 ((0 : Int), ([] : List Byte), ([] : List Byte))).2.2).length) ((b59.2).2))]]) rfl FPack.call16 rfl (pack_Compare_ok hv57_1 hv57_2 hv59_1 hv59_2 hr60 h54) ?_
        rintro _ w62 ⟨rfl, h62⟩
        refine ⟨_, rfl, .inr ⟨rfl, ?_⟩⟩
        refine Plan.cmpP (a := (x_61 : Int)) (b := (0 : Int)) (p := 0 ≤ x_61) rfl rfl rfl rfl icmp_ge ?_
        refine Plan.nil ?_
        refine hK53 _ _ ?_; clear hK53
        by_cases hc63 : 0 ≤ x_61
        ·
          replace hR := ifT hR hc63
          refine W.condT (congrArg Value.bool (decide_eq_true hc63)) ?_
          refine W.seq_k fun K64 hK64 => ?_
          refine W.regionT [(0, true)] (by kernel_rfl) ?_
          refine Plan.assign_int rfl rfl ?_
          refine Plan.nil ?_
          refine hK64 _ _ ?_; clear hK64
          refine W.ret (blockR_ret (thenR_ret (iterR_ret (blockR_ret (thenR_ret (thenR_ret (finR_ret ?_)))))))
          replace hR := hR.2
          subst r
          refine RetOk.mk (.tmp_int rfl .nil) ?_
          exact ⟨rfl, h62⟩
        ·
          replace hR := ifF hR hc63
          refine W.condF (congrArg Value.bool (decide_eq_false hc63)) ?_
          refine W.skip ?_
          refine blockR_norm ?_
          refine hK52 _ _ ?_; clear hK52
          refine W.regionT [(0, true), (1, true), (2, true)] (by kernel_rfl) ?_
          refine Plan.move_int rfl rfl ?_
          obtain ⟨hc65, hR⟩ := hR
          refine Plan.addN (a := i_46) (b := 1) rfl rfl rfl (by omega) ?_
          refine Plan.assign_int rfl rfl ?_
          refine Plan.nil ?_
          exact iterR_norm ⟨_, hR, (EnvHas.cons rfl (EnvHas.cons rfl EnvHas.nil)), h62⟩
      ·
        replace hR := ifF hR hc51
        refine W.condF (congrArg Value.bool (decide_eq_false hc51)) ?_
        refine W.exit (thenR_exit (iterR_exit (blockR_here ?_)))
        exact ⟨(hx47 _ hR).symm, EnvHas.nil, h48⟩
    ·
      rintro ev66 wl66 ⟨hy66, he66, h66⟩
      obtain ⟨ev66, rfl⟩ := he66.open
      replace hR := hR047  hy66
      refine hK11 _ _ ?_; clear hK11
      refine W.seq_k fun K67 hK67 => ?_
      refine W.regionT [(0, true)] (by kernel_rfl) ?_
      refine Plan.assign_int rfl rfl ?_
      refine Plan.nil ?_
      refine hK67 _ _ ?_; clear hK67
      refine W.ret (finR_ret ?_)
      subst r
      refine RetOk.mk (.tmp_int rfl .nil) ?_
      exact ⟨rfl, h66⟩


set_option maxRecDepth 8000 in
set_option maxHeartbeats 1000000 in
theorem pack_place_1_ok {B : Nat} {w0 w : World} {L : List Rg} {aTable1 : Int} {aKey2 : List Byte} {aaKey2 : Option Addr} {naKey2 caKey2 iaKey2 : Nat} (haKey2 : Bx L iaKey2 aaKey2 naKey2 caKey2 aKey2) {aValue3 : List Byte} {aaValue3 : Option Addr} {naValue3 caValue3 iaValue3 : Nat} (haValue3 : Bx L iaValue3 aaValue3 naValue3 caValue3 aValue3) {bTable4 : Int} {bKey5 : List Byte} {abKey5 : Option Addr} {nbKey5 cbKey5 ibKey5 : Nat} (hbKey5 : Bx L ibKey5 abKey5 nbKey5 cbKey5 bKey5) {bValue6 : List Byte} {abValue6 : Option Addr} {nbValue6 cbValue6 ibValue6 : Nat} (hbValue6 : Bx L ibValue6 abValue6 nbValue6 cbValue6 bValue6) {r : Int} (hR : pack_place_1 aTable1 aKey2 aValue3 bTable4 bKey5 bValue6 r) (HST : St B w0 (L) w) :
    Calls Try.prog 87 #[AG [(1, fun _ => .int .i64 aTable1), (1, fun _ => .slice aaKey2 naKey2 caKey2), (1, fun _ => .slice aaValue3 naValue3 caValue3)], AG [(1, fun _ => .int .i64 bTable4), (1, fun _ => .slice abKey5 nbKey5 cbKey5), (1, fun _ => .slice abValue6 nbValue6 cbValue6)]] w fun e w' => e = .returned (.int .i64 r) ∧ St B w0 (L) w' := by
  refine W.enter 8 Try.func87 rfl rfl rfl ?_
  unfold pack_place_1 at hR
  have eaKey2 := haKey2.hl; subst eaKey2
  have eaValue3 := haValue3.hl; subst eaValue3
  have ebKey5 := hbKey5.hl; subst ebKey5
  have ebValue6 := hbValue6.hl; subst ebValue6
  refine W.seq_k fun K7 hK7 => ?_
  refine W.regionT [(0, false), (1, false), (2, true)] (by kernel_rfl) ?_
  refine Plan.boxA HST rfl rfl PIn.nil fun b8 w8 hb8 h8 => ?_
  simp only [rngs, Nat.zero_add, Nat.reduceAdd, List.cons_append, List.nil_append] at h8
  refine Plan.boxA h8 rfl rfl PIn.nil fun b9 w9 hb9 h9 => ?_
  simp only [rngs, Nat.zero_add, Nat.reduceAdd, List.cons_append, List.nil_append] at h9
  refine Plan.assign_int rfl rfl ?_
  refine Plan.nil ?_
  refine hK7 _ _ ?_; clear hK7
  refine W.seq_k fun K10 hK10 => ?_
  refine W.regionT [(0, true), (1, true), (2, false), (3, true)] (by kernel_rfl) ?_
  refine Plan.loadA h9 rfl rfl (.cons 3 rfl (.cons 4 rfl (.cons 5 rfl .nil))) FPack.agg25 ?_
  refine Plan.loadA h9 rfl rfl (.cons 0 rfl (.cons 1 rfl (.cons 2 rfl .nil))) FPack.agg25 ?_
  obtain ⟨x_12, hr11, hR⟩ := hR
  refine Plan.call (vs := [AG [(1, fun _ => .int .i64 aTable1), (1, fun _ => .slice aaKey2 aKey2.length caKey2), (1, fun _ => .slice aaValue3 aValue3.length caValue3)], AG [(1, fun _ => .int .i64 bTable4), (1, fun _ => .slice abKey5 bKey5.length cbKey5), (1, fun _ => .slice abValue6 bValue6.length cbValue6)]]) rfl FPack.call16 rfl (pack_Compare_ok (haKey2.app [_, _, _, _, _, _]) (haValue3.app [_, _, _, _, _, _]) (hbKey5.app [_, _, _, _, _, _]) (hbValue6.app [_, _, _, _, _, _]) hr11 h9) ?_
  rintro _ w13 ⟨rfl, h13⟩
  refine ⟨_, rfl, .inr ⟨rfl, ?_⟩⟩
  refine Plan.assign_int rfl rfl ?_
  refine Plan.nil ?_
  refine hK10 _ _ ?_; clear hK10
  refine W.ret (finR_ret ?_)
  have h14 := St.pickT (C := [_, _, _, _, _, _]) h13 [] (by decide)
  simp only [pick, List.filterMap_cons, List.filterMap_nil, List.getElem?_cons_zero, List.getElem?_cons_succ, List.cons_append, List.nil_append] at h14
  subst r
  refine RetOk.mk (.tmp_int rfl .nil) ?_
  exact ⟨rfl, h14⟩


set_option maxRecDepth 8000 in
set_option maxHeartbeats 1000000 in
theorem slices_BinarySearchFunc_api_Record_api_Record_api_Record__of_pack_place_1_ok {B : Nat} {w0 w : World} {L : List Rg} {x_1 : List (Int × (List Byte) × (List Byte))} {ax_1 : Option Addr} {nx_1 cx_1 ix_1 : Nat} (hx_1 : LV (D25.at L) L ix_1 ax_1 nx_1 cx_1 x_1) {targetTable2 : Int} {targetKey3 : List Byte} {atargetKey3 : Option Addr} {ntargetKey3 ctargetKey3 itargetKey3 : Nat} (htargetKey3 : Bx L itargetKey3 atargetKey3 ntargetKey3 ctargetKey3 targetKey3) {targetValue4 : List Byte} {atargetValue4 : Option Addr} {ntargetValue4 ctargetValue4 itargetValue4 : Nat} (htargetValue4 : Bx L itargetValue4 atargetValue4 ntargetValue4 ctargetValue4 targetValue4) {r : (Nat × Bool)} (hR : slices_BinarySearchFunc_api_Record_api_Record_api_Record__of_pack_place_1 x_1 targetTable2 targetKey3 targetValue4 r) (HST : St B w0 (L) w) :
    Calls Try.prog 86 #[.slice ax_1 nx_1 cx_1, AG [(1, fun _ => .int .i64 targetTable2), (1, fun _ => .slice atargetKey3 ntargetKey3 ctargetKey3), (1, fun _ => .slice atargetValue4 ntargetValue4 ctargetValue4)], .func (.func 87) #[] #[]] w fun e w' => e = .returned (.tuple #[VN r.1, .bool r.2]) ∧ St B w0 (L) w' := by
  refine W.enter 49 Try.func86 rfl rfl rfl ?_
  unfold slices_BinarySearchFunc_api_Record_api_Record_api_Record__of_pack_place_1 at hR
  have ex_1 := hx_1.hl; subst ex_1
  have etargetKey3 := htargetKey3.hl; subst etargetKey3
  have etargetValue4 := htargetValue4.hl; subst etargetValue4
  refine W.seq_k fun K5 hK5 => ?_
  refine W.regionT [(0, false), (1, true), (2, true)] (by kernel_rfl) ?_
  refine Plan.boxA HST rfl rfl PIn.nil fun b6 w6 hb6 h6 => ?_
  simp only [rngs, Nat.zero_add, Nat.reduceAdd, List.cons_append, List.nil_append] at h6
  refine Plan.assign_int rfl rfl ?_
  refine Plan.assign_bool rfl rfl ?_
  refine Plan.nil ?_
  refine hK5 _ _ ?_; clear hK5
  refine W.seq_k fun K7 hK7 => ?_
  refine W.regionT [(0, true), (1, true), (2, true)] (by kernel_rfl) ?_
  refine Plan.move_slice rfl rfl ?_
  refine Plan.len FPack.isl22 rfl rfl ?_
  refine Plan.assign_int rfl rfl ?_
  refine Plan.nil ?_
  refine hK7 _ _ ?_; clear hK7
  refine W.seq_k fun K8 hK8 => ?_
  refine W.regionT [(0, true), (1, true), (2, true)] (by kernel_rfl) ?_
  refine Plan.move_int rfl rfl ?_
  refine Plan.assign_int rfl rfl ?_
  refine Plan.assign_int rfl rfl ?_
  refine Plan.nil ?_
  refine hK8 _ _ ?_; clear hK8
  refine W.seq_k fun K9 hK9 => ?_
  obtain ⟨i_44, hI45, hR045⟩ := hR
  refine W.cutN (fun e w => ∃ y_i_44 : Nat, i_44 = y_i_44 ∧ EnvHas e [(0, .slice ax_1 x_1.length cx_1), (2, .func (.func 87) #[] #[]), (4, .pointer (some ⟨b6, 0, none⟩)), (8, VN x_1.length), (9, VN y_i_44)] ∧ St B w0 (⟨some b6, 0, 1, fun _ => .int .i64 targetTable2, true⟩ :: ⟨some b6, 1, 1, fun _ => .slice atargetKey3 targetKey3.length ctargetKey3, true⟩ :: ⟨some b6, 2, 1, fun _ => .slice atargetValue4 targetValue4.length ctargetValue4, true⟩ :: L) w) ?_ ?_
  ·
    refine W.block ?_
    refine W.iter hI45 (fun (s45 : (Nat × Nat)) e w => EnvHas e [(0, .slice ax_1 x_1.length cx_1), (2, .func (.func 87) #[] #[]), (4, .pointer (some ⟨b6, 0, none⟩)), (8, VN x_1.length), (9, VN s45.1), (10, VN s45.2)] ∧ St B w0 (⟨some b6, 0, 1, fun _ => .int .i64 targetTable2, true⟩ :: ⟨some b6, 1, 1, fun _ => .slice atargetKey3 targetKey3.length ctargetKey3, true⟩ :: ⟨some b6, 2, 1, fun _ => .slice atargetValue4 targetValue4.length ctargetValue4, true⟩ :: L) w) ⟨(EnvHas.cons rfl (EnvHas.cons rfl (EnvHas.cons rfl (EnvHas.cons rfl (EnvHas.cons rfl (EnvHas.cons rfl EnvHas.nil)))))), h6⟩ ?_
    rintro ⟨i_42, j43⟩ o45 hR hx45 ev46 wl46 ⟨he46, h46⟩
    obtain ⟨ev46, rfl⟩ := he46.open
    unfold slices_BinarySearchFunc_api_Record_api_Record_api_Record__of_pack_place_1_l0 at hR
    refine W.seq_k fun K47 hK47 => ?_
    refine W.seq_k fun K48 hK48 => ?_
    refine W.regionT [(0, true), (1, true), (2, true)] (by kernel_rfl) ?_
    refine Plan.move_int rfl rfl ?_
    refine Plan.move_int rfl rfl ?_
    refine Plan.cmpP (a := (((i_42 : Nat) : Int) : Int)) (b := (((j43 : Nat) : Int) : Int)) (p := i_42 < j43) rfl rfl rfl rfl icmp_ltN ?_
    refine Plan.nil ?_
    refine hK48 _ _ ?_; clear hK48
    by_cases hc49 : i_42 < j43
    ·
      replace hR := ifT hR hc49
      refine W.condT (congrArg Value.bool (decide_eq_true hc49)) ?_
      refine W.skip ?_
      refine hK47 _ _ ?_; clear hK47
      refine W.block ?_
      refine W.seq_k fun K50 hK50 => ?_
      refine W.regionT [(0, true), (1, true), (2, true), (3, true), (4, true), (5, true), (6, true)] (by kernel_rfl) ?_
      refine Plan.move_int rfl rfl ?_
      refine Plan.move_int rfl rfl ?_
      obtain ⟨hc51, hR⟩ := hR
      refine Plan.addN (a := i_42) (b := j43) rfl rfl rfl (by omega) ?_
      refine Plan.convNU .u64 (a := (i_42 + j43)) FPack.u121 FPack.some3 rfl rfl ?_
      refine Plan.shrU .u64 (X := (BitVec.ofNat 64 (i_42 + j43))) (c := 1) rfl rfl rfl ?_
      obtain ⟨hc52, hR⟩ := hR
      refine Plan.convN (a := ((BitVec.ofNat 64 (i_42 + j43)) >>> 1).toNat) FPack.u3 FPack.some121 rfl rfl hc52 ?_
      refine Plan.assign_int rfl rfl ?_
      refine Plan.nil ?_
      refine hK50 _ _ ?_; clear hK50
      refine W.seq_k fun K53 hK53 => ?_
      refine W.regionD FPack.mixed [(0, true), (1, true), (2, true), (3, true), (4, true), (5, true), (6, false), (7, true)] (by kernel_rfl) ?_
      have h54 := h46.drew
      refine Plan.move rfl rfl ?_
      refine Plan.move_slice rfl rfl ?_
      refine Plan.move_int rfl rfl ?_
      obtain ⟨hc55, hR⟩ := hR
      refine Plan.idxLVS (D := (D25.at L)) (j := ((BitVec.ofNat 64 (i_42 + j43)) >>> 1).toNat) h54 (hx_1.app [_, _, _]) FPack.sl22 rfl rfl rfl hc55 ?_
      refine Plan.loadLV (D := (D25.at L)) (X := x_1) (j := ((BitVec.ofNat 64 (i_42 + j43)) >>> 1).toNat) (sz := 3) h54 ((0 : Int), ([] : List Byte), ([] : List Byte)) (hx_1.app [_, _, _]) rfl rfl hc55 rfl FPack.agg25 fun b56 r56 hs56 hr56 => ?_
      obtain ⟨⟨i56_1, hv56_1⟩, ⟨i56_2, hv56_2⟩⟩ := hs56
      refine Plan.loadA h54 rfl rfl (.cons 0 rfl (.cons 1 rfl (.cons 2 rfl .nil))) FPack.agg25 ?_
      obtain ⟨x_58, hr57, hR⟩ := hR
      refine Plan.callF (f := 87) (vs := [AG [(1, fun _ => .int .i64 ((x_1.getD (((BitVec.ofNat 64 (i_42 + j43)) >>> 1).toNat) ((0 : Int), ([] : List Byte), ([] : List Byte))).1)), (1, fun _ => .slice ((b56.1).1) (((x_1.getD (((BitVec.ofNat 64 (i_42 + j43)) >>> 1).toNat) ((0 : Int), ([] : List Byte), ([] : List Byte))).2.1).length) ((b56.1).2)), (1, fun _ => .slice ((b56.2).1) (((x_1.getD (((BitVec.ofNat 64 (i_42 + j43)) >>> 1).toNat) ((0 : Int), ([] : List Byte), ([] : List Byte))).2.2).length) ((b56.2).2))], AG [(1, fun _ => .int .i64 targetTable2), (1, fun _ => .slice atargetKey3 targetKey3.length ctargetKey3), (1, fun _ => .slice atargetValue4 targetValue4.length ctargetValue4)]]) (cs := []) rfl rfl FPack.call87 rfl (pack_place_1_ok (hv56_1.app [_, _, _]) (hv56_2.app [_, _, _]) (htargetKey3.app [_, _, _]) (htargetValue4.app [_, _, _]) hr57 h54) ?_
      rintro _ w59 ⟨rfl, h59⟩
      refine ⟨_, rfl, .inr ⟨rfl, ?_⟩⟩
      refine Plan.cmpP (a := (x_58 : Int)) (b := (0 : Int)) (p := x_58 < 0) rfl rfl rfl rfl icmp_lt ?_
      refine Plan.nil ?_
      refine hK53 _ _ ?_; clear hK53
      by_cases hc60 : x_58 < 0
      ·
        replace hR := ifT hR hc60
        refine W.condT (congrArg Value.bool (decide_eq_true hc60)) ?_
        refine W.regionT [(0, true), (1, true), (2, true)] (by kernel_rfl) ?_
        refine Plan.move_int rfl rfl ?_
        obtain ⟨hc61, hR⟩ := hR
        refine Plan.addN (a := ((BitVec.ofNat 64 (i_42 + j43)) >>> 1).toNat) (b := 1) rfl rfl rfl (by omega) ?_
        refine Plan.assign_int rfl rfl ?_
        refine Plan.nil ?_
        refine blockR_norm ?_
        exact iterR_norm ⟨_, hR, (EnvHas.cons rfl (EnvHas.cons rfl (EnvHas.cons rfl (EnvHas.cons rfl (EnvHas.cons rfl (EnvHas.cons rfl EnvHas.nil)))))), h59⟩
      ·
        replace hR := ifF hR hc60
        refine W.condF (congrArg Value.bool (decide_eq_false hc60)) ?_
        refine W.regionT [(0, true), (1, true)] (by kernel_rfl) ?_
        refine Plan.move_int rfl rfl ?_
        refine Plan.assign_int rfl rfl ?_
        refine Plan.nil ?_
        refine blockR_norm ?_
        exact iterR_norm ⟨_, hR, (EnvHas.cons rfl (EnvHas.cons rfl (EnvHas.cons rfl (EnvHas.cons rfl (EnvHas.cons rfl (EnvHas.cons rfl EnvHas.nil)))))), h59⟩
    ·
      replace hR := ifF hR hc49
      refine W.condF (congrArg Value.bool (decide_eq_false hc49)) ?_
      refine W.exit (thenR_exit (iterR_exit (blockR_here ?_)))
      exact ⟨i_42, (hx45 _ hR).symm, (EnvHas.cons rfl (EnvHas.cons rfl (EnvHas.cons rfl (EnvHas.cons rfl (EnvHas.cons rfl EnvHas.nil))))), h46⟩
  ·
    rintro ev62 wl62 ⟨y_i_44, hy62, he62, h62⟩
    obtain ⟨ev62, rfl⟩ := he62.open
    subst hy62
    replace hR := hR045
    refine hK9 _ _ ?_; clear hK9
    refine W.seq_k fun K63 hK63 => ?_
    refine W.regionD FPack.mixed [(0, true), (1, true), (2, true), (3, true), (4, true), (5, true), (6, true), (7, true), (8, true), (9, true), (10, true), (11, false), (12, true), (13, true), (14, true), (15, true)] (by kernel_rfl) ?_
    have h64 := h62.drew
    refine Plan.move_int rfl rfl ?_
    refine Plan.move_int rfl rfl ?_
    refine Plan.move_int rfl rfl ?_
    by_cases hc65 : i_44 < x_1.length
    ·
      replace hR := ifT hR hc65
      refine Plan.cmpV (a := (((i_44 : Nat) : Int) : Int)) (b := (((x_1.length : Nat) : Int) : Int)) (p := i_44 < x_1.length) (v := true) rfl rfl rfl rfl icmp_ltN (decide_eq_true hc65) ?_
      refine Plan.move_bool rfl rfl ?_
      refine Plan.move rfl rfl ?_
      refine Plan.move_slice rfl rfl ?_
      refine Plan.move_int rfl rfl ?_
      obtain ⟨hc66, hR⟩ := hR
      refine Plan.idxLVS (D := (D25.at L)) (j := i_44) h64 (hx_1.app [_, _, _]) FPack.sl22 rfl rfl rfl hc66 ?_
      refine Plan.loadLV (D := (D25.at L)) (X := x_1) (j := i_44) (sz := 3) h64 ((0 : Int), ([] : List Byte), ([] : List Byte)) (hx_1.app [_, _, _]) rfl rfl hc66 rfl FPack.agg25 fun b67 r67 hs67 hr67 => ?_
      obtain ⟨⟨i67_1, hv67_1⟩, ⟨i67_2, hv67_2⟩⟩ := hs67
      refine Plan.loadA h64 rfl rfl (.cons 0 rfl (.cons 1 rfl (.cons 2 rfl .nil))) FPack.agg25 ?_
      obtain ⟨x_69, hr68, hR⟩ := hR
      refine Plan.callF (f := 87) (vs := [AG [(1, fun _ => .int .i64 ((x_1.getD i_44 ((0 : Int), ([] : List Byte), ([] : List Byte))).1)), (1, fun _ => .slice ((b67.1).1) (((x_1.getD i_44 ((0 : Int), ([] : List Byte), ([] : List Byte))).2.1).length) ((b67.1).2)), (1, fun _ => .slice ((b67.2).1) (((x_1.getD i_44 ((0 : Int), ([] : List Byte), ([] : List Byte))).2.2).length) ((b67.2).2))], AG [(1, fun _ => .int .i64 targetTable2), (1, fun _ => .slice atargetKey3 targetKey3.length ctargetKey3), (1, fun _ => .slice atargetValue4 targetValue4.length ctargetValue4)]]) (cs := []) rfl rfl FPack.call87 rfl (pack_place_1_ok (hv67_1.app [_, _, _]) (hv67_2.app [_, _, _]) (htargetKey3.app [_, _, _]) (htargetValue4.app [_, _, _]) hr68 h64) ?_
      rintro _ w70 ⟨rfl, h70⟩
      refine ⟨_, rfl, .inr ⟨rfl, ?_⟩⟩
      refine Plan.cmpP (a := (x_69 : Int)) (b := (0 : Int)) (p := x_69 = 0) rfl rfl rfl rfl icmp_eq ?_
      refine Plan.pickTb rfl rfl rfl ?_
      refine Plan.assign_int rfl rfl ?_
      refine Plan.assign_bool rfl rfl ?_
      refine Plan.nil ?_
      refine hK63 _ _ ?_; clear hK63
      refine W.ret (finR_ret ?_)
      have h71 := St.pickT (C := [_, _, _]) h70 [] (by decide)
      simp only [pick, List.filterMap_cons, List.filterMap_nil, List.getElem?_cons_zero, List.getElem?_cons_succ, List.cons_append, List.nil_append] at h71
      subst r
      refine RetOk.mk (.tmp_int rfl (.tmp_bool rfl .nil)) ?_
      exact ⟨rfl, h71⟩
    ·
      replace hR := ifF hR hc65
      refine Plan.cmpV (a := (((i_44 : Nat) : Int) : Int)) (b := (((x_1.length : Nat) : Int) : Int)) (p := i_44 < x_1.length) (v := false) rfl rfl rfl rfl icmp_ltN (decide_eq_false hc65) ?_
      refine Plan.move_bool rfl rfl ?_
      refine Plan.passed rfl ?_
      refine Plan.passed rfl ?_
      refine Plan.passed rfl ?_
      refine Plan.passed rfl ?_
      refine Plan.passed rfl ?_
      refine Plan.passed rfl ?_
      refine Plan.passed rfl ?_
      refine Plan.passed rfl ?_
      refine Plan.pickFb rfl rfl rfl ?_
      refine Plan.assign_int rfl rfl ?_
      refine Plan.assign_bool rfl rfl ?_
      refine Plan.nil ?_
      refine hK63 _ _ ?_; clear hK63
      refine W.ret (finR_ret ?_)
      have h72 := St.pickT (C := [_, _, _]) h64 [] (by decide)
      simp only [pick, List.filterMap_cons, List.filterMap_nil, List.getElem?_cons_zero, List.getElem?_cons_succ, List.cons_append, List.nil_append] at h72
      subst r
      refine RetOk.mk (.tmp_int rfl (.tmp_bool rfl .nil)) ?_
      exact ⟨rfl, h72⟩


set_option maxRecDepth 8000 in
set_option maxHeartbeats 1000000 in
theorem pack_place_ok {B : Nat} {w0 w : World} {L : List Rg} {list1 : List (Int × (List Byte) × (List Byte))} {alist1 : Option Addr} {nlist1 clist1 ilist1 : Nat} (hlist1 : LV (D25.at L) L ilist1 alist1 nlist1 clist1 list1) {rTable2 : Int} {rKey3 : List Byte} {arKey3 : Option Addr} {nrKey3 crKey3 irKey3 : Nat} (hrKey3 : Bx L irKey3 arKey3 nrKey3 crKey3 rKey3) {rValue4 : List Byte} {arValue4 : Option Addr} {nrValue4 crValue4 irValue4 : Nat} (hrValue4 : Bx L irValue4 arValue4 nrValue4 crValue4 rValue4) {r : (Nat × Bool)} (hR : pack_place list1 rTable2 rKey3 rValue4 r) (HST : St B w0 (L) w) :
    Calls Try.prog 61 #[.slice alist1 nlist1 clist1, AG [(1, fun _ => .int .i64 rTable2), (1, fun _ => .slice arKey3 nrKey3 crKey3), (1, fun _ => .slice arValue4 nrValue4 crValue4)]] w fun e w' => e = .returned (.tuple #[VN r.1, .bool r.2]) ∧ St B w0 (L) w' := by
  refine W.enter 11 Try.func61 rfl rfl rfl ?_
  unfold pack_place at hR
  have elist1 := hlist1.hl; subst elist1
  have erKey3 := hrKey3.hl; subst erKey3
  have erValue4 := hrValue4.hl; subst erValue4
  refine W.seq_k fun K5 hK5 => ?_
  refine W.regionT [(0, false), (1, true), (2, true)] (by kernel_rfl) ?_
  refine Plan.boxA HST rfl rfl PIn.nil fun b6 w6 hb6 h6 => ?_
  simp only [rngs, Nat.zero_add, Nat.reduceAdd, List.cons_append, List.nil_append] at h6
  refine Plan.assign_int rfl rfl ?_
  refine Plan.assign_bool rfl rfl ?_
  refine Plan.nil ?_
  refine hK5 _ _ ?_; clear hK5
  refine W.seq_k fun K7 hK7 => ?_
  refine W.regionT [(0, true), (1, true), (2, false), (3, true), (4, true), (5, true), (6, true)] (by kernel_rfl) ?_
  refine Plan.move_slice rfl rfl ?_
  refine Plan.loadA h6 rfl rfl (.cons 0 rfl (.cons 1 rfl (.cons 2 rfl .nil))) FPack.agg25 ?_
  obtain ⟨x_9, x_10, hr8, hR⟩ := hR
  refine Plan.call (vs := [.slice alist1 list1.length clist1, AG [(1, fun _ => .int .i64 rTable2), (1, fun _ => .slice arKey3 rKey3.length crKey3), (1, fun _ => .slice arValue4 rValue4.length crValue4)], .func (.func 87) #[] #[]]) rfl FPack.call86 rfl (slices_BinarySearchFunc_api_Record_api_Record_api_Record__of_pack_place_1_ok (by exact (LV.grow D25_lifts (fun r hr => List.mem_append_right [_, _, _] ((fun _ h => h) r hr)) (hlist1.app [_, _, _]))) (hrKey3.app [_, _, _]) (hrValue4.app [_, _, _]) hr8 h6) ?_
  rintro _ w11 ⟨rfl, h11⟩
  refine ⟨_, rfl, .inr ⟨rfl, ?_⟩⟩
  refine Plan.extract_int rfl rfl rfl ?_
  refine Plan.extract_bool rfl rfl rfl ?_
  refine Plan.assign_int rfl rfl ?_
  refine Plan.assign_bool rfl rfl ?_
  refine Plan.nil ?_
  refine hK7 _ _ ?_; clear hK7
  refine W.ret (finR_ret ?_)
  have h12 := St.pickT (C := [_, _, _]) h11 [] (by decide)
  simp only [pick, List.filterMap_cons, List.filterMap_nil, List.getElem?_cons_zero, List.getElem?_cons_succ, List.cons_append, List.nil_append] at h12
  subst r
  refine RetOk.mk (.tmp_int rfl (.tmp_bool rfl .nil)) ?_
  exact ⟨rfl, h12⟩


set_option maxRecDepth 8000 in
set_option maxHeartbeats 1000000 in
theorem pack_twin_ok {B : Nat} {w0 w : World} {L : List Rg} {rTable1 : Int} {rKey2 : List Byte} {arKey2 : Option Addr} {nrKey2 crKey2 irKey2 : Nat} (hrKey2 : Bx L irKey2 arKey2 nrKey2 crKey2 rKey2) {rValue3 : List Byte} {arValue3 : Option Addr} {nrValue3 crValue3 irValue3 : Nat} (hrValue3 : Bx L irValue3 arValue3 nrValue3 crValue3 rValue3) {r : (Int × (List Byte) × (List Byte))} (hR : pack_twin rTable1 rKey2 rValue3 r) (HST : St B w0 (L) w) :
    Calls Try.prog 63 #[AG [(1, fun _ => .int .i64 rTable1), (1, fun _ => .slice arKey2 nrKey2 crKey2), (1, fun _ => .slice arValue3 nrValue3 crValue3)]] w fun e w' => ∃ C : List Rg, ∃ iy0_1 : Nat, ∃ ay0_1 : Option Addr, ∃ cy0_1 : Nat, ∃ iy0_2 : Nat, ∃ ay0_2 : Option Addr, ∃ cy0_2 : Nat, e = .returned (AG [(1, fun _ => .int .i64 r.1), (1, fun _ => .slice ay0_1 r.2.1.length cy0_1), (1, fun _ => .slice ay0_2 r.2.2.length cy0_2)]) ∧ St B w0 ((C ++ L)) w' ∧ Bx C iy0_1 ay0_1 r.2.1.length cy0_1 r.2.1 ∧ Bx C iy0_2 ay0_2 r.2.2.length cy0_2 r.2.2 := by
  refine W.enter 14 Try.func63 rfl rfl rfl ?_
  unfold pack_twin at hR
  obtain ⟨LP, hLPn⟩ : ∃ X, X = ([] : List Rg) := ⟨_, rfl⟩
  have hLP : ∀ r ∈ LP, r ∈ L := by rw [hLPn]; exact fun r hr => nomatch hr
  have hFr : Fr2 L [] L LP := by rw [hLPn]; exact Fr2.refl _ _
  have erKey2 := hrKey2.hl; subst erKey2
  have erValue3 := hrValue3.hl; subst erValue3
  refine W.seq_k fun K4 hK4 => ?_
  refine W.regionT [(0, false), (1, false)] (by kernel_rfl) ?_
  refine Plan.boxA HST rfl rfl PIn.nil fun b5 w5 hb5 h5 => ?_
  simp only [rngs, Nat.zero_add, Nat.reduceAdd, List.cons_append, List.nil_append] at h5
  refine Plan.alloc h5 rfl FPack.z25 PIn.nil fun b6 w6 hb6 h6 => ?_
  simp only [rngs, Nat.zero_add, Nat.reduceAdd, List.cons_append, List.nil_append] at h6
  refine Plan.nil ?_
  refine hK4 _ _ ?_; clear hK4
  refine W.seq_k fun K7 hK7 => ?_
  refine W.regionF FPack.mixed (.fork [(0, true), (1, true), (2, true), (3, true), (6, true), (7, true)] (.fork [(4, false)] (.line [(5, false), (8, false), (9, false), (10, true), (11, false)]) (.line [(8, false), (5, false), (9, false), (10, true), (11, false)])) (.line [(8, false), (4, false), (5, false), (9, false), (10, true), (11, false)])) (by kernel_rfl) (PlanT.toFork ?_)
  have h8 := h6.drew
  refine Plan.fieldAddr0 FPack.fld25_0 rfl rfl ?_
  refine Plan.load0 h8 3 rfl rfl rfl (by omega) FPack.sc3 ?_
  refine Plan.fieldAddr 1 FPack.fld25_1 rfl rfl ?_
  refine Plan.load0 h8 4 rfl rfl rfl (by omega) FPack.sc23 ?_
  refine Plan.fieldAddr 2 FPack.fld25_2 rfl rfl ?_
  refine Plan.load0 h8 5 rfl rfl rfl (by omega) FPack.sc23 ?_
  obtain ⟨x_12, hr11, hR⟩ := hR
  obtain ⟨x_22, hr21, hR⟩ := hR
  obtain ⟨x_33, hr32, hR⟩ := hR
  obtain ⟨x_41, hr40, hR⟩ := hR
  refine Plan.forked ?_ ?_
  ·
    refine PlanT.toFork ?_
    refine Plan.buildSlice h8 (ps := [(1, fun i => .slice ((fun i => ([arKey2] : List (Option Addr)).getD i none) i) ((fun i => ([rKey2.length] : List Nat).getD i 0) i) ((fun i => ([crKey2] : List Nat).getD i 0) i))]) FPack.slu61 FPack.sz23 FPack.zv23 (by decide) (by decide) rfl rfl rfl (EffO.mix _ (Filt.keep rfl (Filt.drop rfl (Filt.keep rfl Filt.nil))) (PIn.cons 5 rfl (PIn.cons 3 rfl PIn.nil))) fun b50 w50 hb50 h50 => ?_
    simp only [rngs, List.cons_append, List.nil_append] at h50
    refine Plan.forked ?_ ?_
    ·
      refine PlanT.toLine ?_
      refine Plan.call (vs := [.slice (some ⟨b50, 0, none⟩) 1 1]) rfl FPack.call88 rfl (wire_Join_ok (by exact (Bss.of 0 rfl rfl (fun i hi => match i, hi with | 0, _ => ⟨_, (hrKey2.app [_, _, _, _, _, _, _])⟩ | k + 1, hk => absurd hk (by omega)))) hr32 h50) ?_
      rintro _ w58 ⟨ay0_53, py0_54, ny0_55, cy0_56, Fy0_57, rfl, h58, hf58_0⟩
      obtain rfl := hf58_0.hl
      refine ⟨_, rfl, .inl ⟨PIn.keep (PIn.cons 7 rfl (PIn.cons 5 rfl PIn.nil)) h58, ?_⟩⟩
      refine Plan.buildSlice h58 (ps := [(1, fun i => .slice ((fun i => ([arValue3] : List (Option Addr)).getD i none) i) ((fun i => ([rValue3.length] : List Nat).getD i 0) i) ((fun i => ([crValue3] : List Nat).getD i 0) i))]) FPack.slu61 FPack.sz23 FPack.zv23 (by decide) (by decide) rfl rfl rfl (EffO.mix _ (Filt.drop rfl (Filt.keep rfl Filt.nil)) (PIn.cons 5 rfl PIn.nil)) fun b60 w60 hb60 h60 => ?_
      simp only [rngs, List.cons_append, List.nil_append] at h60
      refine Plan.call (vs := [.slice (some ⟨b60, 0, none⟩) 1 1]) rfl FPack.call88 rfl (wire_Join_ok (by exact (Bss.of 0 rfl rfl (fun i hi => match i, hi with | 0, _ => ⟨_, (hrValue3.app [_, _, _, _, _, _, _, _, _])⟩ | k + 1, hk => absurd hk (by omega)))) hr40 h60) ?_
      rintro _ w68 ⟨ay0_63, py0_64, ny0_65, cy0_66, Fy0_67, rfl, h68, hf68_0⟩
      obtain rfl := hf68_0.hl
      refine ⟨_, rfl, .inl ⟨PIn.keep (PIn.cons 7 rfl PIn.nil) h68, ?_⟩⟩
      refine Plan.buildP (ps := [(1, fun _ => .int .i64 rTable1), (1, fun _ => .slice ay0_53 x_33.length cy0_56), (1, fun _ => .slice ay0_63 x_41.length cy0_66)]) FPack.pl25 (by decide) FPack.z25 rfl rfl (.one [] [(1, fun _ => .slice none 0 0), (1, fun _ => .slice none 0 0)] (fun _ => VN 0) rfl rfl (.one [(1, fun _ => .int .i64 rTable1)] [(1, fun _ => .slice none 0 0)] (fun _ => .slice none 0 0) rfl rfl (.one [(1, fun _ => .int .i64 rTable1), (1, fun _ => .slice ay0_53 x_33.length cy0_56)] [] (fun _ => .slice none 0 0) rfl rfl .nil))) ?_
      refine Plan.storeP (ps := [(1, fun _ => .int .i64 rTable1), (1, fun _ => .slice ay0_53 x_33.length cy0_56), (1, fun _ => .slice ay0_63 x_41.length cy0_66)]) h68 rfl rfl rfl (.cons 4 rfl (.cons 5 rfl (.cons 6 rfl .nil))) ⟨fun _ _ => rfl, fun _ _ => rfl, fun _ _ => rfl, trivial⟩ FPack.sz25 (EffO.wait rfl) fun w69 h69 => ?_
      simp only [List.cons_append, List.nil_append, List.set_cons_zero, List.set_cons_succ] at h69
      refine Plan.nil ?_
      refine hK7 _ _ ?_; clear hK7
      refine W.ret (finR_ret ?_)
      have h70 := St.pickT (C := [_, _, _, _, _, _, _, _, _, _]) h69 [0, 1, 3, 4, 5, 6, 7, 8, 9, 2] (by decide)
      simp only [pick, List.filterMap_cons, List.filterMap_nil, List.getElem?_cons_zero, List.getElem?_cons_succ, List.cons_append, List.nil_append] at h70
      obtain ⟨L, hL71⟩ : ∃ X, X = [⟨py0_54, 0, cy0_56, fun q => VU .u8 (Fy0_57 q), true⟩] ++ L := ⟨_, rfl⟩
      obtain ⟨LP, hQ71⟩ : ∃ X, X = [⟨py0_54, 0, cy0_56, fun q => VU .u8 (Fy0_57 q), true⟩] ++ LP := ⟨_, rfl⟩
      replace hLP : ∀ r ∈ LP, r ∈ L := by rw [hQ71, hL71]; exact frMemGrow hLP
      have h71 := St.re (N := [_, _, _, _, _, _, _, _, _]) hL71 h70
      simp only [List.cons_append, List.nil_append] at h71
      replace hFr : Fr2 _ _ L LP := hFr.step hL71 hQ71
      obtain ⟨ix72, hv72⟩ : ∃ i, Bx L i arKey2 rKey2.length crKey2 rKey2 := ⟨_, by rw [hL71]; exact hrKey2.app _⟩
      obtain ⟨ix73, hv73⟩ : ∃ i, Bx L i arValue3 rValue3.length crValue3 rValue3 := ⟨_, by rw [hL71]; exact hrValue3.app _⟩
      have hv74 : Bx L 0 ay0_53 x_33.length cy0_56 x_33 := by rw [hL71]; exact (hf58_0.bx 0 rfl)
      have hp74 : ∃ i, Bx LP i ay0_53 x_33.length cy0_56 x_33 := ⟨0, by rw [hQ71]; exact (hf58_0.bx 0 rfl)⟩
      have h75 := St.pickT (C := [_, _, _, _, _, _, _, _, _]) h71 [1, 2, 3, 4, 5, 6, 7, 8, 0] (by decide)
      simp only [pick, List.filterMap_cons, List.filterMap_nil, List.getElem?_cons_zero, List.getElem?_cons_succ, List.cons_append, List.nil_append] at h75
      obtain ⟨L, hL76⟩ : ∃ X, X = [⟨py0_64, 0, cy0_66, fun q => VU .u8 (Fy0_67 q), true⟩] ++ L := ⟨_, rfl⟩
      obtain ⟨LP, hQ76⟩ : ∃ X, X = [⟨py0_64, 0, cy0_66, fun q => VU .u8 (Fy0_67 q), true⟩] ++ LP := ⟨_, rfl⟩
      replace hLP : ∀ r ∈ LP, r ∈ L := by rw [hQ76, hL76]; exact frMemGrow hLP
      have h76 := St.re (N := [_, _, _, _, _, _, _, _]) hL76 h75
      simp only [List.cons_append, List.nil_append] at h76
      replace hFr : Fr2 _ _ L LP := hFr.step hL76 hQ76
      obtain ⟨ix77, hv77⟩ : ∃ i, Bx L i arKey2 rKey2.length crKey2 rKey2 := ⟨_, by rw [hL76]; exact hv72.app _⟩
      obtain ⟨ix78, hv78⟩ : ∃ i, Bx L i arValue3 rValue3.length crValue3 rValue3 := ⟨_, by rw [hL76]; exact hv73.app _⟩
      obtain ⟨ix79, hv79⟩ : ∃ i, Bx L i ay0_53 x_33.length cy0_56 x_33 := ⟨_, by rw [hL76]; exact hv74.app _⟩
      have hp79 : ∃ i, Bx LP i ay0_53 x_33.length cy0_56 x_33 := by rw [hQ76]; exact ⟨_, hp74.choose_spec.app _⟩
      have hv80 : Bx L 0 ay0_63 x_41.length cy0_66 x_41 := by rw [hL76]; exact (hf68_0.bx 0 rfl)
      have hp80 : ∃ i, Bx LP i ay0_63 x_41.length cy0_66 x_41 := ⟨0, by rw [hQ76]; exact (hf68_0.bx 0 rfl)⟩
      obtain ⟨iz81, hz81⟩ : ∃ i, Bx LP i _ _ _ _ := hp79
      obtain ⟨iz82, hz82⟩ : ∃ i, Bx LP i _ _ _ _ := hp80
      have h83 := St.pickT (C := [_, _, _, _, _, _, _, _]) h76 [] (by decide)
      simp only [pick, List.filterMap_cons, List.filterMap_nil, List.getElem?_cons_zero, List.getElem?_cons_succ, List.cons_append, List.nil_append] at h83
      subst r
      refine RetOk.mk (.agg h69 rfl (.cons 4 rfl (.cons 5 rfl (.cons 6 rfl .nil))) FPack.agg25 .nil) ?_
      obtain ⟨CF, hx1, hx2⟩ := hFr
      simp only [List.append_nil] at hx2
      subst hx1
      subst hx2
      exact ⟨_, iz81, ay0_53, cy0_56, iz82, ay0_63, cy0_66, rfl, h83, hz81, hz82⟩
    ·
      refine PlanT.toLine ?_
      refine Plan.buildSlice h50 (ps := [(1, fun i => .slice ((fun i => ([arValue3] : List (Option Addr)).getD i none) i) ((fun i => ([rValue3.length] : List Nat).getD i 0) i) ((fun i => ([crValue3] : List Nat).getD i 0) i))]) FPack.slu61 FPack.sz23 FPack.zv23 (by decide) (by decide) rfl rfl rfl (EffO.mix _ (Filt.drop rfl (Filt.keep rfl Filt.nil)) (PIn.cons 4 rfl PIn.nil)) fun b85 w85 hb85 h85 => ?_
      simp only [rngs, List.cons_append, List.nil_append] at h85
      refine Plan.call (vs := [.slice (some ⟨b50, 0, none⟩) 1 1]) rfl FPack.call88 rfl (wire_Join_ok (by exact (Bss.of 1 rfl rfl (fun i hi => match i, hi with | 0, _ => ⟨_, (hrKey2.app [_, _, _, _, _, _, _, _])⟩ | k + 1, hk => absurd hk (by omega)))) hr32 h85) ?_
      rintro _ w93 ⟨ay0_88, py0_89, ny0_90, cy0_91, Fy0_92, rfl, h93, hf93_0⟩
      obtain rfl := hf93_0.hl
      refine ⟨_, rfl, .inl ⟨PIn.keep (PIn.cons 6 rfl PIn.nil) h93, ?_⟩⟩
      refine Plan.call (vs := [.slice (some ⟨b85, 0, none⟩) 1 1]) rfl FPack.call88 rfl (wire_Join_ok (by exact (Bss.of 1 rfl rfl (fun i hi => match i, hi with | 0, _ => ⟨_, (hrValue3.app [_, _, _, _, _, _, _, _, _])⟩ | k + 1, hk => absurd hk (by omega)))) hr40 h93) ?_
      rintro _ w101 ⟨ay0_96, py0_97, ny0_98, cy0_99, Fy0_100, rfl, h101, hf101_0⟩
      obtain rfl := hf101_0.hl
      refine ⟨_, rfl, .inl ⟨PIn.keep (PIn.cons 7 rfl PIn.nil) h101, ?_⟩⟩
      refine Plan.buildP (ps := [(1, fun _ => .int .i64 rTable1), (1, fun _ => .slice ay0_88 x_33.length cy0_91), (1, fun _ => .slice ay0_96 x_41.length cy0_99)]) FPack.pl25 (by decide) FPack.z25 rfl rfl (.one [] [(1, fun _ => .slice none 0 0), (1, fun _ => .slice none 0 0)] (fun _ => VN 0) rfl rfl (.one [(1, fun _ => .int .i64 rTable1)] [(1, fun _ => .slice none 0 0)] (fun _ => .slice none 0 0) rfl rfl (.one [(1, fun _ => .int .i64 rTable1), (1, fun _ => .slice ay0_88 x_33.length cy0_91)] [] (fun _ => .slice none 0 0) rfl rfl .nil))) ?_
      refine Plan.storeP (ps := [(1, fun _ => .int .i64 rTable1), (1, fun _ => .slice ay0_88 x_33.length cy0_91), (1, fun _ => .slice ay0_96 x_41.length cy0_99)]) h101 rfl rfl rfl (.cons 4 rfl (.cons 5 rfl (.cons 6 rfl .nil))) ⟨fun _ _ => rfl, fun _ _ => rfl, fun _ _ => rfl, trivial⟩ FPack.sz25 (EffO.wait rfl) fun w102 h102 => ?_
      simp only [List.cons_append, List.nil_append, List.set_cons_zero, List.set_cons_succ] at h102
      refine Plan.nil ?_
      refine hK7 _ _ ?_; clear hK7
      refine W.ret (finR_ret ?_)
      have h103 := St.pickT (C := [_, _, _, _, _, _, _, _, _, _]) h102 [0, 2, 3, 4, 5, 6, 7, 8, 9, 1] (by decide)
      simp only [pick, List.filterMap_cons, List.filterMap_nil, List.getElem?_cons_zero, List.getElem?_cons_succ, List.cons_append, List.nil_append] at h103
      obtain ⟨L, hL104⟩ : ∃ X, X = [⟨py0_89, 0, cy0_91, fun q => VU .u8 (Fy0_92 q), true⟩] ++ L := ⟨_, rfl⟩
      obtain ⟨LP, hQ104⟩ : ∃ X, X = [⟨py0_89, 0, cy0_91, fun q => VU .u8 (Fy0_92 q), true⟩] ++ LP := ⟨_, rfl⟩
      replace hLP : ∀ r ∈ LP, r ∈ L := by rw [hQ104, hL104]; exact frMemGrow hLP
      have h104 := St.re (N := [_, _, _, _, _, _, _, _, _]) hL104 h103
      simp only [List.cons_append, List.nil_append] at h104
      replace hFr : Fr2 _ _ L LP := hFr.step hL104 hQ104
      obtain ⟨ix105, hv105⟩ : ∃ i, Bx L i arKey2 rKey2.length crKey2 rKey2 := ⟨_, by rw [hL104]; exact hrKey2.app _⟩
      obtain ⟨ix106, hv106⟩ : ∃ i, Bx L i arValue3 rValue3.length crValue3 rValue3 := ⟨_, by rw [hL104]; exact hrValue3.app _⟩
      have hv107 : Bx L 0 ay0_88 x_33.length cy0_91 x_33 := by rw [hL104]; exact (hf93_0.bx 0 rfl)
      have hp107 : ∃ i, Bx LP i ay0_88 x_33.length cy0_91 x_33 := ⟨0, by rw [hQ104]; exact (hf93_0.bx 0 rfl)⟩
      have h108 := St.pickT (C := [_, _, _, _, _, _, _, _, _]) h104 [1, 2, 3, 4, 5, 6, 7, 8, 0] (by decide)
      simp only [pick, List.filterMap_cons, List.filterMap_nil, List.getElem?_cons_zero, List.getElem?_cons_succ, List.cons_append, List.nil_append] at h108
      obtain ⟨L, hL109⟩ : ∃ X, X = [⟨py0_97, 0, cy0_99, fun q => VU .u8 (Fy0_100 q), true⟩] ++ L := ⟨_, rfl⟩
      obtain ⟨LP, hQ109⟩ : ∃ X, X = [⟨py0_97, 0, cy0_99, fun q => VU .u8 (Fy0_100 q), true⟩] ++ LP := ⟨_, rfl⟩
      replace hLP : ∀ r ∈ LP, r ∈ L := by rw [hQ109, hL109]; exact frMemGrow hLP
      have h109 := St.re (N := [_, _, _, _, _, _, _, _]) hL109 h108
      simp only [List.cons_append, List.nil_append] at h109
      replace hFr : Fr2 _ _ L LP := hFr.step hL109 hQ109
      obtain ⟨ix110, hv110⟩ : ∃ i, Bx L i arKey2 rKey2.length crKey2 rKey2 := ⟨_, by rw [hL109]; exact hv105.app _⟩
      obtain ⟨ix111, hv111⟩ : ∃ i, Bx L i arValue3 rValue3.length crValue3 rValue3 := ⟨_, by rw [hL109]; exact hv106.app _⟩
      obtain ⟨ix112, hv112⟩ : ∃ i, Bx L i ay0_88 x_33.length cy0_91 x_33 := ⟨_, by rw [hL109]; exact hv107.app _⟩
      have hp112 : ∃ i, Bx LP i ay0_88 x_33.length cy0_91 x_33 := by rw [hQ109]; exact ⟨_, hp107.choose_spec.app _⟩
      have hv113 : Bx L 0 ay0_96 x_41.length cy0_99 x_41 := by rw [hL109]; exact (hf101_0.bx 0 rfl)
      have hp113 : ∃ i, Bx LP i ay0_96 x_41.length cy0_99 x_41 := ⟨0, by rw [hQ109]; exact (hf101_0.bx 0 rfl)⟩
      obtain ⟨iz114, hz114⟩ : ∃ i, Bx LP i _ _ _ _ := hp112
      obtain ⟨iz115, hz115⟩ : ∃ i, Bx LP i _ _ _ _ := hp113
      have h116 := St.pickT (C := [_, _, _, _, _, _, _, _]) h109 [] (by decide)
      simp only [pick, List.filterMap_cons, List.filterMap_nil, List.getElem?_cons_zero, List.getElem?_cons_succ, List.cons_append, List.nil_append] at h116
      subst r
      refine RetOk.mk (.agg h102 rfl (.cons 4 rfl (.cons 5 rfl (.cons 6 rfl .nil))) FPack.agg25 .nil) ?_
      obtain ⟨CF, hx1, hx2⟩ := hFr
      simp only [List.append_nil] at hx2
      subst hx1
      subst hx2
      exact ⟨_, iz114, ay0_88, cy0_91, iz115, ay0_96, cy0_99, rfl, h116, hz114, hz115⟩
  ·
    refine PlanT.toLine ?_
    refine Plan.buildSlice h8 (ps := [(1, fun i => .slice ((fun i => ([arValue3] : List (Option Addr)).getD i none) i) ((fun i => ([rValue3.length] : List Nat).getD i 0) i) ((fun i => ([crValue3] : List Nat).getD i 0) i))]) FPack.slu61 FPack.sz23 FPack.zv23 (by decide) (by decide) rfl rfl rfl (EffO.mix _ (Filt.drop rfl (Filt.keep rfl (Filt.keep rfl Filt.nil))) (PIn.cons 4 rfl (PIn.cons 3 rfl PIn.nil))) fun b118 w118 hb118 h118 => ?_
    simp only [rngs, List.cons_append, List.nil_append] at h118
    refine Plan.buildSlice h118 (ps := [(1, fun i => .slice ((fun i => ([arKey2] : List (Option Addr)).getD i none) i) ((fun i => ([rKey2.length] : List Nat).getD i 0) i) ((fun i => ([crKey2] : List Nat).getD i 0) i))]) FPack.slu61 FPack.sz23 FPack.zv23 (by decide) (by decide) rfl rfl rfl (EffO.mix _ (Filt.drop rfl (Filt.keep rfl Filt.nil)) (PIn.cons 4 rfl PIn.nil)) fun b120 w120 hb120 h120 => ?_
    simp only [rngs, List.cons_append, List.nil_append] at h120
    refine Plan.call (vs := [.slice (some ⟨b120, 0, none⟩) 1 1]) rfl FPack.call88 rfl (wire_Join_ok (by exact (Bss.of 0 rfl rfl (fun i hi => match i, hi with | 0, _ => ⟨_, (hrKey2.app [_, _, _, _, _, _, _, _])⟩ | k + 1, hk => absurd hk (by omega)))) hr32 h120) ?_
    rintro _ w128 ⟨ay0_123, py0_124, ny0_125, cy0_126, Fy0_127, rfl, h128, hf128_0⟩
    obtain rfl := hf128_0.hl
    refine ⟨_, rfl, .inl ⟨PIn.keep (PIn.cons 6 rfl PIn.nil) h128, ?_⟩⟩
    refine Plan.call (vs := [.slice (some ⟨b118, 0, none⟩) 1 1]) rfl FPack.call88 rfl (wire_Join_ok (by exact (Bss.of 2 rfl rfl (fun i hi => match i, hi with | 0, _ => ⟨_, (hrValue3.app [_, _, _, _, _, _, _, _, _])⟩ | k + 1, hk => absurd hk (by omega)))) hr40 h128) ?_
    rintro _ w136 ⟨ay0_131, py0_132, ny0_133, cy0_134, Fy0_135, rfl, h136, hf136_0⟩
    obtain rfl := hf136_0.hl
    refine ⟨_, rfl, .inl ⟨PIn.keep (PIn.cons 7 rfl PIn.nil) h136, ?_⟩⟩
    refine Plan.buildP (ps := [(1, fun _ => .int .i64 rTable1), (1, fun _ => .slice ay0_123 x_33.length cy0_126), (1, fun _ => .slice ay0_131 x_41.length cy0_134)]) FPack.pl25 (by decide) FPack.z25 rfl rfl (.one [] [(1, fun _ => .slice none 0 0), (1, fun _ => .slice none 0 0)] (fun _ => VN 0) rfl rfl (.one [(1, fun _ => .int .i64 rTable1)] [(1, fun _ => .slice none 0 0)] (fun _ => .slice none 0 0) rfl rfl (.one [(1, fun _ => .int .i64 rTable1), (1, fun _ => .slice ay0_123 x_33.length cy0_126)] [] (fun _ => .slice none 0 0) rfl rfl .nil))) ?_
    refine Plan.storeP (ps := [(1, fun _ => .int .i64 rTable1), (1, fun _ => .slice ay0_123 x_33.length cy0_126), (1, fun _ => .slice ay0_131 x_41.length cy0_134)]) h136 rfl rfl rfl (.cons 4 rfl (.cons 5 rfl (.cons 6 rfl .nil))) ⟨fun _ _ => rfl, fun _ _ => rfl, fun _ _ => rfl, trivial⟩ FPack.sz25 (EffO.wait rfl) fun w137 h137 => ?_
    simp only [List.cons_append, List.nil_append, List.set_cons_zero, List.set_cons_succ] at h137
    refine Plan.nil ?_
    refine hK7 _ _ ?_; clear hK7
    refine W.ret (finR_ret ?_)
    have h138 := St.pickT (C := [_, _, _, _, _, _, _, _, _, _]) h137 [0, 2, 3, 4, 5, 6, 7, 8, 9, 1] (by decide)
    simp only [pick, List.filterMap_cons, List.filterMap_nil, List.getElem?_cons_zero, List.getElem?_cons_succ, List.cons_append, List.nil_append] at h138
    obtain ⟨L, hL139⟩ : ∃ X, X = [⟨py0_124, 0, cy0_126, fun q => VU .u8 (Fy0_127 q), true⟩] ++ L := ⟨_, rfl⟩
    obtain ⟨LP, hQ139⟩ : ∃ X, X = [⟨py0_124, 0, cy0_126, fun q => VU .u8 (Fy0_127 q), true⟩] ++ LP := ⟨_, rfl⟩
    replace hLP : ∀ r ∈ LP, r ∈ L := by rw [hQ139, hL139]; exact frMemGrow hLP
    have h139 := St.re (N := [_, _, _, _, _, _, _, _, _]) hL139 h138
    simp only [List.cons_append, List.nil_append] at h139
    replace hFr : Fr2 _ _ L LP := hFr.step hL139 hQ139
    obtain ⟨ix140, hv140⟩ : ∃ i, Bx L i arKey2 rKey2.length crKey2 rKey2 := ⟨_, by rw [hL139]; exact hrKey2.app _⟩
    obtain ⟨ix141, hv141⟩ : ∃ i, Bx L i arValue3 rValue3.length crValue3 rValue3 := ⟨_, by rw [hL139]; exact hrValue3.app _⟩
    have hv142 : Bx L 0 ay0_123 x_33.length cy0_126 x_33 := by rw [hL139]; exact (hf128_0.bx 0 rfl)
    have hp142 : ∃ i, Bx LP i ay0_123 x_33.length cy0_126 x_33 := ⟨0, by rw [hQ139]; exact (hf128_0.bx 0 rfl)⟩
    have h143 := St.pickT (C := [_, _, _, _, _, _, _, _, _]) h139 [1, 2, 3, 4, 5, 6, 7, 8, 0] (by decide)
    simp only [pick, List.filterMap_cons, List.filterMap_nil, List.getElem?_cons_zero, List.getElem?_cons_succ, List.cons_append, List.nil_append] at h143
    obtain ⟨L, hL144⟩ : ∃ X, X = [⟨py0_132, 0, cy0_134, fun q => VU .u8 (Fy0_135 q), true⟩] ++ L := ⟨_, rfl⟩
    obtain ⟨LP, hQ144⟩ : ∃ X, X = [⟨py0_132, 0, cy0_134, fun q => VU .u8 (Fy0_135 q), true⟩] ++ LP := ⟨_, rfl⟩
    replace hLP : ∀ r ∈ LP, r ∈ L := by rw [hQ144, hL144]; exact frMemGrow hLP
    have h144 := St.re (N := [_, _, _, _, _, _, _, _]) hL144 h143
    simp only [List.cons_append, List.nil_append] at h144
    replace hFr : Fr2 _ _ L LP := hFr.step hL144 hQ144
    obtain ⟨ix145, hv145⟩ : ∃ i, Bx L i arKey2 rKey2.length crKey2 rKey2 := ⟨_, by rw [hL144]; exact hv140.app _⟩
    obtain ⟨ix146, hv146⟩ : ∃ i, Bx L i arValue3 rValue3.length crValue3 rValue3 := ⟨_, by rw [hL144]; exact hv141.app _⟩
    obtain ⟨ix147, hv147⟩ : ∃ i, Bx L i ay0_123 x_33.length cy0_126 x_33 := ⟨_, by rw [hL144]; exact hv142.app _⟩
    have hp147 : ∃ i, Bx LP i ay0_123 x_33.length cy0_126 x_33 := by rw [hQ144]; exact ⟨_, hp142.choose_spec.app _⟩
    have hv148 : Bx L 0 ay0_131 x_41.length cy0_134 x_41 := by rw [hL144]; exact (hf136_0.bx 0 rfl)
    have hp148 : ∃ i, Bx LP i ay0_131 x_41.length cy0_134 x_41 := ⟨0, by rw [hQ144]; exact (hf136_0.bx 0 rfl)⟩
    obtain ⟨iz149, hz149⟩ : ∃ i, Bx LP i _ _ _ _ := hp147
    obtain ⟨iz150, hz150⟩ : ∃ i, Bx LP i _ _ _ _ := hp148
    have h151 := St.pickT (C := [_, _, _, _, _, _, _, _]) h144 [] (by decide)
    simp only [pick, List.filterMap_cons, List.filterMap_nil, List.getElem?_cons_zero, List.getElem?_cons_succ, List.cons_append, List.nil_append] at h151
    subst r
    refine RetOk.mk (.agg h137 rfl (.cons 4 rfl (.cons 5 rfl (.cons 6 rfl .nil))) FPack.agg25 .nil) ?_
    obtain ⟨CF, hx1, hx2⟩ := hFr
    simp only [List.append_nil] at hx2
    subst hx1
    subst hx2
    exact ⟨_, iz149, ay0_123, cy0_126, iz150, ay0_131, cy0_134, rfl, h151, hz149, hz150⟩


set_option maxRecDepth 8000 in
set_option maxHeartbeats 1000000 in
theorem pack_twins_ok {B : Nat} {w0 w : World} {L : List Rg} {list1 : List (Int × (List Byte) × (List Byte))} {alist1 : Option Addr} {nlist1 clist1 ilist1 : Nat} (hlist1 : LV (D25.at L) L ilist1 alist1 nlist1 clist1 list1) {r : (List (Int × (List Byte) × (List Byte)))} (hR : pack_twins list1 r) (HST : St B w0 (L) w) :
    Calls Try.prog 62 #[.slice alist1 nlist1 clist1] w fun e w' => ∃ C : List Rg, ∃ ay0 : Option Addr, ∃ py0 : Option Nat, ∃ ny0 : Nat, ∃ cy0 : Nat, ∃ Fy0 : Nat → Value, e = .returned (.slice ay0 ny0 cy0) ∧ St B w0 (⟨py0, 0, cy0 * 3, Fy0, true⟩ :: (C ++ L)) w' ∧ LO (D25.at C) [] ay0 py0 ny0 cy0 Fy0 r := by
  refine W.enter 19 Try.func62 rfl rfl rfl ?_
  unfold pack_twins at hR
  obtain ⟨LP, hLPn⟩ : ∃ X, X = ([] : List Rg) := ⟨_, rfl⟩
  have hLP : ∀ r ∈ LP, r ∈ L := by rw [hLPn]; exact fun r hr => nomatch hr
  have hFr : Fr2 L [] L LP := by rw [hLPn]; exact Fr2.refl _ _
  have elist1 := hlist1.hl; subst elist1
  refine W.seq_k fun K2 hK2 => ?_
  refine W.regionT [(0, true)] (by kernel_rfl) ?_
  refine Plan.assign_slice rfl rfl ?_
  refine Plan.nil ?_
  refine hK2 _ _ ?_; clear hK2
  refine W.seq_k fun K3 hK3 => ?_
  refine W.regionT [(0, true)] (by kernel_rfl) ?_
  refine Plan.assign_slice rfl rfl ?_
  refine Plan.nil ?_
  refine hK3 _ _ ?_; clear hK3
  refine W.seq_k fun K4 hK4 => ?_
  refine W.seq_k fun K5 hK5 => ?_
  refine W.regionT [(0, true), (1, true), (2, true)] (by kernel_rfl) ?_
  refine Plan.move_slice rfl rfl ?_
  refine Plan.len FPack.isl22 rfl rfl ?_
  refine Plan.move_int rfl rfl ?_
  refine Plan.nil ?_
  refine hK5 _ _ ?_; clear hK5
  have hFj79 : Fr2 L LP L LP := Fr2.refl _ _
  have h80 : St B w0 (⟨none, 0, 0 * 3, fun _ => undef, true⟩ :: _) _ := HST.nilE (fun _ => undef)
  obtain ⟨out78, hI79, hR079⟩ := hR
  refine W.cutN (fun e w => ∃ y_out78 : List (Int × (List Byte) × (List Byte)), out78 = y_out78 ∧ ∃ CG LG : List Rg, LG = CG ++ L ∧ ∃ QG : List Rg, QG = CG ++ LP ∧ ∃ L : List Rg, L = LG ∧ ∃ LP : List Rg, LP = QG ∧ (∀ r ∈ LP, r ∈ L) ∧ ∃ n_out78 : Nat, ∃ aout78 : Option Addr, ∃ pout78 : Option Nat, ∃ cout78 : Nat, ∃ Fout78 : Nat → Value, EnvHas e [(3, .slice aout78 n_out78 cout78)] ∧ St B w0 (⟨pout78, 0, cout78 * 3, Fout78, true⟩ :: L) w ∧ LO (D25.at LP) [] aout78 pout78 n_out78 cout78 Fout78 y_out78) ?_ ?_
  ·
    refine W.block ?_
    refine W.iter hI79 (fun (s79 : ((List (Int × (List Byte) × (List Byte))) × Nat)) e w => ∃ CG LG : List Rg, LG = CG ++ L ∧ ∃ QG : List Rg, QG = CG ++ LP ∧ ∃ L : List Rg, L = LG ∧ ∃ LP : List Rg, LP = QG ∧ (∀ r ∈ LP, r ∈ L) ∧ ∃ n_out75 : Nat, ∃ aout75 : Option Addr, ∃ pout75 : Option Nat, ∃ cout75 : Nat, ∃ Fout75 : Nat → Value, EnvHas e [(3, .slice aout75 n_out75 cout75), (6, .slice alist1 list1.length clist1), (7, VN list1.length), (8, VN s79.2)] ∧ St B w0 (⟨pout75, 0, cout75 * 3, Fout75, true⟩ :: L) w ∧ LO (D25.at LP) [] aout75 pout75 n_out75 cout75 Fout75 s79.1) ⟨[], L, rfl, LP, rfl, L, rfl, LP, rfl, hLP, 0, none, none, 0, (fun _ => undef), (EnvHas.cons rfl (EnvHas.cons rfl (EnvHas.cons rfl (EnvHas.cons rfl EnvHas.nil)))), h80, LO.nil⟩ ?_
    rintro ⟨out75, t77⟩ o79 hR hx79 ev81 wl81 ⟨CG81, LG81, hlg81, QG81, hqg81, L, hLe81, LP, hQe81, hLPn81, n_out75, aout75, pout75, cout75, Fout75, he81, h81, hout75⟩
    try dsimp only at he81 h81 hout75
    obtain rfl : List.length (α := (Int × (List Byte) × (List Byte))) out75 = n_out75 := hout75.hl
    obtain ⟨ev81, rfl⟩ := he81.open
    unfold pack_twins_l0 at hR
    have hL81 := hLe81.trans hlg81
    have hQ81 := hQe81.trans hqg81
    replace hLP : ∀ r ∈ LP, r ∈ L := by rw [hQ81, hL81]; exact frMemGrow hLP
    replace hFr : Fr2 _ _ L LP := hFr.step hL81 hQ81
    replace hFj79 : Fr2 _ _ L LP := hFj79.step hL81 hQ81
    obtain ⟨ix83, hv83⟩ : ∃ i, LV (D25.at L) L i alist1 list1.length clist1 list1 := ⟨_, by rw [hL81]; exact (LV.grow D25_lifts (fun r hr => List.mem_append_right _ hr) hlist1).app _⟩
    refine W.seq_k fun K84 hK84 => ?_
    refine W.regionT [(0, true)] (by kernel_rfl) ?_
    refine Plan.cmpP (a := (((t77 : Nat) : Int) : Int)) (b := (((list1.length : Nat) : Int) : Int)) (p := t77 < list1.length) rfl rfl rfl rfl icmp_ltN ?_
    refine Plan.nil ?_
    refine hK84 _ _ ?_; clear hK84
    refine W.seq_k fun K85 hK85 => ?_
    by_cases hc86 : t77 < list1.length
    ·
      replace hR := ifT hR hc86
      refine W.condT (congrArg Value.bool (decide_eq_true hc86)) ?_
      refine W.skip ?_
      refine hK85 _ _ ?_; clear hK85
      refine W.seq_k fun K87 hK87 => ?_
      refine W.block ?_
      refine W.seq_k fun K88 hK88 => ?_
      refine W.regionT [(0, true), (1, true), (2, false), (3, false)] (by kernel_rfl) ?_
      obtain ⟨hc89, hR⟩ := hR
      refine Plan.idxLVS (D := (D25.at L)) (j := t77) h81 (hv83.app [_]) FPack.sl22 rfl rfl rfl hc89 ?_
      refine Plan.loadLV (D := (D25.at L)) (X := list1) (j := t77) (sz := 3) h81 ((0 : Int), ([] : List Byte), ([] : List Byte)) (hv83.app [_]) rfl rfl hc89 rfl FPack.agg25 fun b90 r90 hs90 hr90 => ?_
      obtain ⟨⟨i90_1, hv90_1⟩, ⟨i90_2, hv90_2⟩⟩ := hs90
      refine Plan.alloc h81 rfl FPack.z25 (PIn.cons (ix83 + 1) hr90 PIn.nil) fun b91 w91 hb91 h91 => ?_
      simp only [rngs, Nat.zero_add, Nat.reduceAdd, List.cons_append, List.nil_append] at h91
      refine Plan.storeP (ps := [(1, fun _ => .int .i64 ((list1.getD t77 ((0 : Int), ([] : List Byte), ([] : List Byte))).1)), (1, fun _ => .slice ((b90.1).1) (((list1.getD t77 ((0 : Int), ([] : List Byte), ([] : List Byte))).2.1).length) ((b90.1).2)), (1, fun _ => .slice ((b90.2).1) (((list1.getD t77 ((0 : Int), ([] : List Byte), ([] : List Byte))).2.2).length) ((b90.2).2))]) h91 rfl rfl rfl (.cons 0 rfl (.cons 1 rfl (.cons 2 rfl .nil))) ⟨fun _ _ => rfl, fun _ _ => rfl, fun _ _ => rfl, trivial⟩ FPack.sz25 (EffO.wait rfl) fun w92 h92 => ?_
      simp only [List.cons_append, List.nil_append, List.set_cons_zero, List.set_cons_succ] at h92
      refine Plan.nil ?_
      refine hK88 _ _ ?_; clear hK88
      refine W.regionT [(0, true), (1, true), (2, false), (3, false), (4, false), (5, true)] (by kernel_rfl) ?_
      refine Plan.move_slice rfl rfl ?_
      refine Plan.loadA h92 rfl rfl (.cons 0 rfl (.cons 1 rfl (.cons 2 rfl .nil))) FPack.agg25 ?_
      obtain ⟨x_94, x_95, x_96, hr93, hR⟩ := hR
      refine Plan.call (vs := [AG [(1, fun _ => .int .i64 ((list1.getD t77 ((0 : Int), ([] : List Byte), ([] : List Byte))).1)), (1, fun _ => .slice ((b90.1).1) (((list1.getD t77 ((0 : Int), ([] : List Byte), ([] : List Byte))).2.1).length) ((b90.1).2)), (1, fun _ => .slice ((b90.2).1) (((list1.getD t77 ((0 : Int), ([] : List Byte), ([] : List Byte))).2.2).length) ((b90.2).2))]]) rfl FPack.call63 rfl (pack_twin_ok (hv90_1.app [_, _, _, _]) (hv90_2.app [_, _, _, _]) hr93 h92) ?_
      rintro _ w103 ⟨C103, iy0_1_97, ay0_1_98, cy0_1_99, iy0_2_100, ay0_2_101, cy0_2_102, rfl, h103, hf103_0, hf103_1⟩
      try dsimp only at hf103_0 hf103_1
      replace h103 := St.pool (N := []) (R := [_, _, _, _]) h103
      obtain ⟨L, hL104⟩ : ∃ X, X = C103 ++ L := ⟨_, rfl⟩
      obtain ⟨LP, hQ104⟩ : ∃ X, X = C103 ++ LP := ⟨_, rfl⟩
      replace hLP : ∀ r ∈ LP, r ∈ L := by rw [hQ104, hL104]; exact frMemGrow hLP
      have h104 := St.re (N := [_, _, _, _]) hL104 h103
      simp only [List.cons_append, List.nil_append] at h104
      replace hFr : Fr2 _ _ L LP := hFr.step hL104 hQ104
      replace hFj79 : Fr2 _ _ L LP := hFj79.step hL104 hQ104
      obtain ⟨ix105, hv105⟩ : ∃ i, LV (D25.at L) L i alist1 list1.length clist1 list1 := ⟨_, by rw [hL104]; exact (LV.grow D25_lifts (fun r hr => List.mem_append_right _ hr) hv83).app _⟩
      obtain ⟨ix106, hv106⟩ : ∃ i, Bx L i ((b90.1).1) (((list1.getD t77 ((0 : Int), ([] : List Byte), ([] : List Byte))).2.1).length) ((b90.1).2) ((list1.getD t77 ((0 : Int), ([] : List Byte), ([] : List Byte))).2.1) := ⟨_, by rw [hL104]; exact hv90_1.app _⟩
      obtain ⟨ix107, hv107⟩ : ∃ i, Bx L i ((b90.2).1) (((list1.getD t77 ((0 : Int), ([] : List Byte), ([] : List Byte))).2.2).length) ((b90.2).2) ((list1.getD t77 ((0 : Int), ([] : List Byte), ([] : List Byte))).2.2) := ⟨_, by rw [hL104]; exact hv90_2.app _⟩
      have ho108 : LO (D25.at LP) [] aout75 pout75 (out75).length cout75 Fout75 out75 := by rw [hQ104]; exact LO.grow D25_lifts (fun r hr => List.mem_append_right _ hr) hout75
      have hp109 : ∃ i, Bx LP i ay0_1_98 x_95.length cy0_1_99 x_95 := by rw [hQ104]; exact Bx.lift hf103_0 (fun r hr => List.mem_append_left _ hr)
      obtain ⟨ix109, hv109⟩ := Bx.lift hp109.choose_spec hLP
      have hp110 : ∃ i, Bx LP i ay0_2_101 x_96.length cy0_2_102 x_96 := by rw [hQ104]; exact Bx.lift hf103_1 (fun r hr => List.mem_append_left _ hr)
      obtain ⟨ix110, hv110⟩ := Bx.lift hp110.choose_spec hLP
      refine ⟨_, rfl, .inr ⟨rfl, ?_⟩⟩
      refine Plan.buildLO (D := (D25.at LP)) (sz := 3) h104 [(((ay0_1_98, cy0_1_99), (ay0_2_101, cy0_2_102)), ((x_94, x_95, x_96) : (Int × (List Byte) × (List Byte))))] FPack.slu22 FPack.sz25 FPack.zv25 (by decide) (by decide) rfl rfl rfl rfl (by exact (List.forall_mem_cons.2 ⟨⟨hp109, hp110⟩, (fun _ h => nomatch h)⟩)) (EffO.keep PIn.nil) fun b112 w112 F112 hb112 ho112 h112 => ?_
      replace ho112 : LO (D25.at LP) [] (some ⟨b112, 0, none⟩) (some b112) ([(x_94, x_95, x_96)] : List (Int × (List Byte) × (List Byte))).length 1 F112 ([(x_94, x_95, x_96)] : List (Int × (List Byte) × (List Byte))) := ho112.re (fun _ _ h => h)
      obtain ⟨hc114, hR⟩ := hR
      refine Plan.appendLO (D := (D25.at LP)) (X := out75) (Y := ([(x_94, x_95, x_96)] : List (Int × (List Byte) × (List Byte)))) (sz := 3) h112 ((none, 0), (none, 0)) ((0 : Int), ([] : List Byte), ([] : List Byte)) 4 ho108 rfl FPack.el22 rfl FPack.slu22 rfl rfl rfl rfl (LO.lvf EL.at_flat ho112 0 rfl) (fun _ _ h => h) hc114.1 hc114.2 (fun _ => EffO.keep PIn.nil) fun a113 pb113 cap113 F113 w113 ho113 h113 => ?_
      simp only [List.cons_append, List.nil_append, List.set_cons_zero, List.set_cons_succ] at h113
      replace ho113 : LO (D25.at LP) [] a113 pb113 (out75 ++ ([(x_94, x_95, x_96)] : List (Int × (List Byte) × (List Byte)))).length cap113 F113 (out75 ++ ([(x_94, x_95, x_96)] : List (Int × (List Byte) × (List Byte)))) := ho113.re (fun _ _ h => h)
      refine Plan.assign_slice rfl rfl ?_
      refine Plan.nil ?_
      refine blockR_norm ?_
      refine hK87 _ _ ?_; clear hK87
      refine W.regionT [(0, true), (1, true)] (by kernel_rfl) ?_
      obtain ⟨hc115, hR⟩ := hR
      refine Plan.addN (a := t77) (b := 1) rfl rfl rfl (by omega) ?_
      refine Plan.move_int rfl rfl ?_
      refine Plan.nil ?_
      have h116 := St.pickT (C := [_, _, _, _, _]) h113 [4] (by decide)
      simp only [pick, List.filterMap_cons, List.filterMap_nil, List.getElem?_cons_zero, List.getElem?_cons_succ, List.cons_append, List.nil_append] at h116
      obtain ⟨CF117, hx117, hy117⟩ := hFj79
      exact iterR_norm ⟨_, hR, CF117, L, hx117, LP, hy117, L, rfl, LP, rfl, hLP, (out75 ++ ([(x_94, x_95, x_96)] : List (Int × (List Byte) × (List Byte)))).length, a113, pb113, cap113, F113, (EnvHas.cons rfl (EnvHas.cons rfl (EnvHas.cons rfl (EnvHas.cons rfl EnvHas.nil)))), h116, ho113⟩
    ·
      replace hR := ifF hR hc86
      refine W.condF (congrArg Value.bool (decide_eq_false hc86)) ?_
      refine W.exit (thenR_exit (iterR_exit (blockR_here ?_)))
      obtain ⟨CF118, hx118, hy118⟩ := hFj79
      exact ⟨out75, (hx79 _ hR).symm, CF118, L, hx118, LP, hy118, L, rfl, LP, rfl, hLP, out75.length, aout75, pout75, cout75, Fout75, (EnvHas.cons rfl EnvHas.nil), h81, hout75⟩
  ·
    rintro ev119 wl119 ⟨y_out78, hy119, CG119, LG119, hlg119, QG119, hqg119, L, hLe119, LP, hQe119, hLPn119, n_out78, aout78, pout78, cout78, Fout78, he119, h119, hout78⟩
    obtain ⟨ev119, rfl⟩ := he119.open
    subst hy119
    replace hR := hR079
    obtain rfl : List.length (α := (Int × (List Byte) × (List Byte))) out78 = n_out78 := hout78.hl
    have hL119 := hLe119.trans hlg119
    have hQ119 := hQe119.trans hqg119
    replace hLP : ∀ r ∈ LP, r ∈ L := by rw [hQ119, hL119]; exact frMemGrow hLP
    replace hFr : Fr2 _ _ L LP := hFr.step hL119 hQ119
    replace hFj79 : Fr2 _ _ L LP := hFj79.step hL119 hQ119
    refine hK4 _ _ ?_; clear hK4
    refine W.seq_k fun K121 hK121 => ?_
    refine W.regionT [(0, true), (1, true)] (by kernel_rfl) ?_
    refine Plan.move_slice rfl rfl ?_
    refine Plan.assign_slice rfl rfl ?_
    refine Plan.nil ?_
    refine hK121 _ _ ?_; clear hK121
    refine W.ret (finR_ret ?_)
    subst r
    refine RetOk.mk (.tmp_slice rfl .nil) ?_
    obtain ⟨CF, hx1, hx2⟩ := hFr
    simp only [List.append_nil] at hx2
    subst hx1
    subst hx2
    exact ⟨_, aout78, pout78, out78.length, cout78, Fout78, rfl, h119, hout78⟩


set_option maxRecDepth 8000 in
set_option maxHeartbeats 1000000 in
theorem pack_Put_ok {B : Nat} {w0 w : World} {L : List Rg} {list1 : List (Int × (List Byte) × (List Byte))} {alist1 : Option Addr} {nlist1 clist1 ilist1 : Nat} (hlist1 : LV (D25.at L) L ilist1 alist1 nlist1 clist1 list1) {rTable2 : Int} {rKey3 : List Byte} {arKey3 : Option Addr} {nrKey3 crKey3 irKey3 : Nat} (hrKey3 : Bx L irKey3 arKey3 nrKey3 crKey3 rKey3) {rValue4 : List Byte} {arValue4 : Option Addr} {nrValue4 crValue4 irValue4 : Nat} (hrValue4 : Bx L irValue4 arValue4 nrValue4 crValue4 rValue4) {r : ((List (Int × (List Byte) × (List Byte))) × Nat)} (hR : pack_Put list1 rTable2 rKey3 rValue4 r) (HST : St B w0 (L) w) :
    Calls Try.prog 19 #[.slice alist1 nlist1 clist1, AG [(1, fun _ => .int .i64 rTable2), (1, fun _ => .slice arKey3 nrKey3 crKey3), (1, fun _ => .slice arValue4 nrValue4 crValue4)]] w fun e w' => ∃ C : List Rg, ∃ ay0 : Option Addr, ∃ py0 : Option Nat, ∃ ny0 : Nat, ∃ cy0 : Nat, ∃ Fy0 : Nat → Value, e = .returned (.tuple #[.slice ay0 ny0 cy0, VN r.2]) ∧ St B w0 (⟨py0, 0, cy0 * 3, Fy0, true⟩ :: (C ++ L)) w' ∧ LO (D25.at C) [] ay0 py0 ny0 cy0 Fy0 r.1 := by
  refine W.enter 46 Try.func19 rfl rfl rfl ?_
  unfold pack_Put at hR
  obtain ⟨LP, hLPn⟩ : ∃ X, X = ([] : List Rg) := ⟨_, rfl⟩
  have hLP : ∀ r ∈ LP, r ∈ L := by rw [hLPn]; exact fun r hr => nomatch hr
  have hFr : Fr2 L [] L LP := by rw [hLPn]; exact Fr2.refl _ _
  have elist1 := hlist1.hl; subst elist1
  have erKey3 := hrKey3.hl; subst erKey3
  have erValue4 := hrValue4.hl; subst erValue4
  refine W.seq_k fun K5 hK5 => ?_
  refine W.regionT [(0, false), (1, true), (2, true)] (by kernel_rfl) ?_
  refine Plan.boxA HST rfl rfl PIn.nil fun b6 w6 hb6 h6 => ?_
  simp only [rngs, Nat.zero_add, Nat.reduceAdd, List.cons_append, List.nil_append] at h6
  refine Plan.assign_slice rfl rfl ?_
  refine Plan.assign_int rfl rfl ?_
  refine Plan.nil ?_
  refine hK5 _ _ ?_; clear hK5
  refine W.seq_k fun K7 hK7 => ?_
  refine W.seq_k fun K8 hK8 => ?_
  refine W.regionT [(0, true), (1, false), (2, true)] (by kernel_rfl) ?_
  refine Plan.loadA h6 rfl rfl (.cons 0 rfl (.cons 1 rfl (.cons 2 rfl .nil))) FPack.agg25 ?_
  obtain ⟨x_10, hr9, hR⟩ := hR
  refine Plan.call (vs := [AG [(1, fun _ => .int .i64 rTable2), (1, fun _ => .slice arKey3 rKey3.length crKey3), (1, fun _ => .slice arValue4 rValue4.length crValue4)]]) rfl FPack.call59 rfl (pack_Check_ok (hrKey3.app [_, _, _]) (hrValue4.app [_, _, _]) hr9 h6) ?_
  rintro _ w11 ⟨rfl, h11⟩
  refine ⟨_, rfl, .inr ⟨rfl, ?_⟩⟩
  refine Plan.assign_int rfl rfl ?_
  refine Plan.nil ?_
  refine hK8 _ _ ?_; clear hK8
  refine W.seq_k fun K12 hK12 => ?_
  refine W.regionT [(0, true), (1, true)] (by kernel_rfl) ?_
  refine Plan.move_int rfl rfl ?_
  refine Plan.cmpP (a := (((x_10 : Nat) : Int) : Int)) (b := (0 : Int)) (p := x_10 ≠ 0) rfl rfl rfl rfl icmp_neN ?_
  refine Plan.nil ?_
  refine hK12 _ _ ?_; clear hK12
  by_cases hc13 : x_10 ≠ 0
  ·
    replace hR := ifT hR hc13
    refine W.condT (congrArg Value.bool (decide_eq_true hc13)) ?_
    refine W.seq_k fun K14 hK14 => ?_
    refine W.regionT [(0, true), (1, true), (2, true)] (by kernel_rfl) ?_
    refine Plan.move_int rfl rfl ?_
    refine Plan.assign_slice rfl rfl ?_
    refine Plan.assign_int rfl rfl ?_
    refine Plan.nil ?_
    refine hK14 _ _ ?_; clear hK14
    refine W.ret (thenR_ret (finR_ret ?_))
    have h15 : St B w0 (⟨none, 0, 0 * 3, fun _ => undef, true⟩ :: _) _ := h11.nilE (fun _ => undef)
    have h16 := St.pickT (C := [_, _, _, _]) h15 [0] (by decide)
    simp only [pick, List.filterMap_cons, List.filterMap_nil, List.getElem?_cons_zero, List.getElem?_cons_succ, List.cons_append, List.nil_append] at h16
    subst r
    refine RetOk.mk (.tmp_slice rfl (.tmp_int rfl .nil)) ?_
    subst hLPn
    exact ⟨[], none, none, 0, 0, (fun _ => undef), rfl, h16, LO.nil⟩
  ·
    replace hR := ifF hR hc13
    refine W.condF (congrArg Value.bool (decide_eq_false hc13)) ?_
    refine W.skip ?_
    refine hK7 _ _ ?_; clear hK7
    refine W.seq_k fun K17 hK17 => ?_
    refine W.seq_k fun K18 hK18 => ?_
    refine W.regionT [(0, true), (1, false), (2, true)] (by kernel_rfl) ?_
    refine Plan.move_slice rfl rfl ?_
    obtain ⟨x_20, hr19, hR⟩ := hR
    refine Plan.call (vs := [.slice alist1 list1.length clist1]) rfl FPack.call60 rfl (pack_sorted_ok (by exact (LV.grow D25_lifts (fun r hr => List.mem_append_right [_, _, _] ((fun _ h => h) r hr)) (hlist1.app [_, _, _]))) hr19 h11) ?_
    rintro _ w21 ⟨rfl, h21⟩
    refine ⟨_, rfl, .inl ⟨PIn.keep PIn.nil h21, ?_⟩⟩
    refine Plan.assign_int rfl rfl ?_
    refine Plan.nil ?_
    refine hK18 _ _ ?_; clear hK18
    refine W.seq_k fun K22 hK22 => ?_
    refine W.regionT [(0, true), (1, true)] (by kernel_rfl) ?_
    refine Plan.move_int rfl rfl ?_
    refine Plan.cmpP (a := (((x_20 : Nat) : Int) : Int)) (b := (0 : Int)) (p := x_20 ≠ 0) rfl rfl rfl rfl icmp_neN ?_
    refine Plan.nil ?_
    refine hK22 _ _ ?_; clear hK22
    by_cases hc23 : x_20 ≠ 0
    ·
      replace hR := ifT hR hc23
      refine W.condT (congrArg Value.bool (decide_eq_true hc23)) ?_
      refine W.seq_k fun K24 hK24 => ?_
      refine W.regionT [(0, true), (1, true), (2, true)] (by kernel_rfl) ?_
      refine Plan.move_int rfl rfl ?_
      refine Plan.assign_slice rfl rfl ?_
      refine Plan.assign_int rfl rfl ?_
      refine Plan.nil ?_
      refine hK24 _ _ ?_; clear hK24
      refine W.ret (thenR_ret (finR_ret ?_))
      have h25 : St B w0 (⟨none, 0, 0 * 3, fun _ => undef, true⟩ :: _) _ := h21.nilE (fun _ => undef)
      have h26 := St.pickT (C := [_, _, _, _]) h25 [0] (by decide)
      simp only [pick, List.filterMap_cons, List.filterMap_nil, List.getElem?_cons_zero, List.getElem?_cons_succ, List.cons_append, List.nil_append] at h26
      subst r
      refine RetOk.mk (.tmp_slice rfl (.tmp_int rfl .nil)) ?_
      subst hLPn
      exact ⟨[], none, none, 0, 0, (fun _ => undef), rfl, h26, LO.nil⟩
    ·
      replace hR := ifF hR hc23
      refine W.condF (congrArg Value.bool (decide_eq_false hc23)) ?_
      refine W.skip ?_
      refine hK17 _ _ ?_; clear hK17
      refine W.seq_k fun K27 hK27 => ?_
      refine W.regionT [(0, true), (1, true), (2, false), (3, true), (4, true), (5, true), (6, true), (7, true)] (by kernel_rfl) ?_
      refine Plan.move_slice rfl rfl ?_
      refine Plan.loadA h21 rfl rfl (.cons 0 rfl (.cons 1 rfl (.cons 2 rfl .nil))) FPack.agg25 ?_
      obtain ⟨x_29, x_30, hr28, hR⟩ := hR
      refine Plan.call (vs := [.slice alist1 list1.length clist1, AG [(1, fun _ => .int .i64 rTable2), (1, fun _ => .slice arKey3 rKey3.length crKey3), (1, fun _ => .slice arValue4 rValue4.length crValue4)]]) rfl FPack.call61 rfl (pack_place_ok (by exact (LV.grow D25_lifts (fun r hr => List.mem_append_right [_, _, _] ((fun _ h => h) r hr)) (hlist1.app [_, _, _]))) (hrKey3.app [_, _, _]) (hrValue4.app [_, _, _]) hr28 h21) ?_
      rintro _ w31 ⟨rfl, h31⟩
      refine ⟨_, rfl, .inr ⟨rfl, ?_⟩⟩
      refine Plan.move_tuple rfl rfl ?_
      refine Plan.extract_int rfl rfl rfl ?_
      refine Plan.extract_bool rfl rfl rfl ?_
      refine Plan.assign_int rfl rfl ?_
      refine Plan.assign_bool rfl rfl ?_
      refine Plan.nil ?_
      refine hK27 _ _ ?_; clear hK27
      refine W.seq_k fun K32 hK32 => ?_
      refine W.regionT [(0, true), (1, true), (2, true), (3, true)] (by kernel_rfl) ?_
      refine Plan.move_slice rfl rfl ?_
      refine Plan.move_int rfl rfl ?_
      obtain ⟨hc33, hR⟩ := hR
      refine Plan.slLV (D := (D25.at L)) (sz := 3) (lo := x_29) (hi := list1.length) hlist1 rfl FPack.sl22 rfl rfl ⟨_, rfl⟩ rfl hc33 fun a34 c34 hv34 => ?_
      refine Plan.assign_slice rfl rfl ?_
      refine Plan.nil ?_
      refine hK32 _ _ ?_; clear hK32
      refine W.seq_k fun K35 hK35 => ?_
      obtain ⟨behind41, hX42, hR042⟩ := hR
      refine W.cutN (fun e w => ∃ y_behind41 : List (Int × (List Byte) × (List Byte)), (behind41 = y_behind41) ∧ ∃ ibehind41 : Nat, ∃ abehind41 : Option Addr, ∃ cbehind41 : Nat, EnvHas e [(0, .slice alist1 list1.length clist1), (3, .pointer (some ⟨b6, 0, none⟩)), (8, VN x_29), (10, .slice abehind41 y_behind41.length cbehind41)] ∧ St B w0 (⟨some b6, 0, 1, fun _ => .int .i64 rTable2, true⟩ :: ⟨some b6, 1, 1, fun _ => .slice arKey3 rKey3.length crKey3, true⟩ :: ⟨some b6, 2, 1, fun _ => .slice arValue4 rValue4.length crValue4, true⟩ :: L) w ∧ LV (D25.at L) L ibehind41 abehind41 y_behind41.length cbehind41 y_behind41) ?_ ?_
      ·
        replace hR := hX42
        refine W.seq_k fun K43 hK43 => ?_
        refine W.regionT [(0, true)] (by kernel_rfl) ?_
        refine Plan.move_bool rfl rfl ?_
        refine Plan.nil ?_
        refine hK43 _ _ ?_; clear hK43
        by_cases hc44 : x_30 = true
        ·
          replace hR := ifT hR hc44
          refine W.condT (congrArg Value.bool hc44) ?_
          refine W.regionT [(0, true), (1, true), (2, true), (3, true), (4, true)] (by kernel_rfl) ?_
          refine Plan.move_slice rfl rfl ?_
          refine Plan.move_int rfl rfl ?_
          obtain ⟨hc45, hR⟩ := hR
          refine Plan.addN (a := x_29) (b := 1) rfl rfl rfl (by omega) ?_
          obtain ⟨hc46, hR⟩ := hR
          refine Plan.slLV (D := (D25.at L)) (sz := 3) (lo := (x_29 + 1)) (hi := list1.length) hlist1 rfl FPack.sl22 rfl rfl ⟨_, rfl⟩ rfl hc46 fun a47 c47 hv47 => ?_
          refine Plan.assign_slice rfl rfl ?_
          refine Plan.nil ?_
          exact ⟨(sgl list1 (x_29 + 1) list1.length), hR, ilist1, a47, c47, (EnvHas.cons rfl (EnvHas.cons rfl (EnvHas.cons rfl (EnvHas.cons rfl EnvHas.nil)))), h31, hv47⟩
        ·
          replace hR := ifF hR hc44
          refine W.condF (congrArg Value.bool (Bool.eq_false_iff.2 hc44)) ?_
          refine W.skip ?_
          exact ⟨(sgl list1 x_29 list1.length), hR, ilist1, a34, c34, (EnvHas.cons rfl (EnvHas.cons rfl (EnvHas.cons rfl (EnvHas.cons rfl EnvHas.nil)))), h31, hv34⟩
      ·
        rintro ev48 wl48 ⟨y_behind41, hy48_0, ibehind41, abehind41, cbehind41, he48, h48, hbehind41⟩
        subst hy48_0
        obtain ⟨ev48, rfl⟩ := he48.open
        replace hR := hR042
        refine hK35 _ _ ?_; clear hK35
        refine W.seq_k fun K49 hK49 => ?_
        refine W.regionD FPack.mixed [(0, true), (1, true), (2, true), (4, true), (8, true), (3, false), (5, false), (6, false), (7, false), (9, false), (10, false), (11, true), (12, true)] (by kernel_rfl) ?_
        have h50 := h48.drew
        refine Plan.move_slice rfl rfl ?_
        refine Plan.move_int rfl rfl ?_
        obtain ⟨hc51, hR⟩ := hR
        refine Plan.slLV (D := (D25.at L)) (sz := 3) (lo := 0) (hi := x_29) hlist1 rfl FPack.sl22 rfl rfl rfl ⟨_, rfl⟩ hc51 fun a52 c52 hv52 => ?_
        refine Plan.loadA h50 rfl rfl (.cons 0 rfl (.cons 1 rfl (.cons 2 rfl .nil))) FPack.agg25 ?_
        refine Plan.move_slice rfl rfl ?_
        obtain ⟨x_54, hr53, hR⟩ := hR
        refine Plan.call (vs := [.slice a52 ((sgl list1 0 x_29).length) c52]) rfl FPack.call62 rfl (pack_twins_ok (by exact (LV.grow D25_lifts (fun r hr => List.mem_append_right [_, _, _] ((fun _ h => h) r hr)) (hv52.app [_, _, _]))) hr53 h50) ?_
        rintro _ w60 ⟨C60, ay0_55, py0_56, ny0_57, cy0_58, Fy0_59, rfl, h60, hf60_0⟩
        replace h60 := St.pool (N := [_]) (R := [_, _, _]) h60
        obtain ⟨L, hL61⟩ : ∃ X, X = C60 ++ L := ⟨_, rfl⟩
        obtain ⟨LP, hQ61⟩ : ∃ X, X = C60 ++ LP := ⟨_, rfl⟩
        replace hLP : ∀ r ∈ LP, r ∈ L := by rw [hQ61, hL61]; exact frMemGrow hLP
        have h61 := St.re (N := [_, _, _, _]) hL61 h60
        simp only [List.cons_append, List.nil_append] at h61
        replace hFr : Fr2 _ _ L LP := hFr.step hL61 hQ61
        obtain ⟨ix62, hv62⟩ : ∃ i, LV (D25.at L) L i alist1 list1.length clist1 list1 := ⟨_, by rw [hL61]; exact (LV.grow D25_lifts (fun r hr => List.mem_append_right _ hr) hlist1).app _⟩
        obtain ⟨ix63, hv63⟩ : ∃ i, LV (D25.at L) L i abehind41 behind41.length cbehind41 behind41 := ⟨_, by rw [hL61]; exact (LV.grow D25_lifts (fun r hr => List.mem_append_right _ hr) hbehind41).app _⟩
        obtain ⟨ix64, hv64⟩ : ∃ i, LV (D25.at L) L i a52 ((sgl list1 0 x_29).length) c52 (sgl list1 0 x_29) := ⟨_, by rw [hL61]; exact (LV.grow D25_lifts (fun r hr => List.mem_append_right _ hr) hv52).app _⟩
        obtain ⟨ix65, hv65⟩ : ∃ i, Bx L i arKey3 rKey3.length crKey3 rKey3 := ⟨_, by rw [hL61]; exact hrKey3.app _⟩
        obtain ⟨ix66, hv66⟩ : ∃ i, Bx L i arValue4 rValue4.length crValue4 rValue4 := ⟨_, by rw [hL61]; exact hrValue4.app _⟩
        obtain rfl := hf60_0.hl
        have hd60_0 : LO (D25.at LP) [] ay0_55 py0_56 (x_54).length cy0_58 Fy0_59 x_54 := LO.grow D25_lifts (fun r hr => (by rw [hQ61]; exact List.mem_append_left _ hr)) hf60_0
        refine ⟨_, rfl, .inl ⟨PIn.keep (PIn.parts (.cons 1 rfl (.cons 2 rfl (.cons 3 rfl .nil))) PIn.nil) h61, ?_⟩⟩
        obtain ⟨x_68, x_69, x_70, hr67, hR⟩ := hR
        refine Plan.call (vs := [AG [(1, fun _ => .int .i64 rTable2), (1, fun _ => .slice arKey3 rKey3.length crKey3), (1, fun _ => .slice arValue4 rValue4.length crValue4)]]) rfl FPack.call63 rfl (pack_twin_ok (hv65.app [_, _, _, _]) (hv66.app [_, _, _, _]) hr67 h61) ?_
        rintro _ w77 ⟨C77, iy0_1_71, ay0_1_72, cy0_1_73, iy0_2_74, ay0_2_75, cy0_2_76, rfl, h77, hf77_0, hf77_1⟩
        try dsimp only at hf77_0 hf77_1
        replace h77 := St.pool (N := []) (R := [_, _, _, _]) h77
        obtain ⟨L, hL78⟩ : ∃ X, X = C77 ++ L := ⟨_, rfl⟩
        obtain ⟨LP, hQ78⟩ : ∃ X, X = C77 ++ LP := ⟨_, rfl⟩
        replace hLP : ∀ r ∈ LP, r ∈ L := by rw [hQ78, hL78]; exact frMemGrow hLP
        have h78 := St.re (N := [_, _, _, _]) hL78 h77
        simp only [List.cons_append, List.nil_append] at h78
        replace hFr : Fr2 _ _ L LP := hFr.step hL78 hQ78
        obtain ⟨ix79, hv79⟩ : ∃ i, LV (D25.at L) L i alist1 list1.length clist1 list1 := ⟨_, by rw [hL78]; exact (LV.grow D25_lifts (fun r hr => List.mem_append_right _ hr) hv62).app _⟩
        obtain ⟨ix80, hv80⟩ : ∃ i, LV (D25.at L) L i abehind41 behind41.length cbehind41 behind41 := ⟨_, by rw [hL78]; exact (LV.grow D25_lifts (fun r hr => List.mem_append_right _ hr) hv63).app _⟩
        obtain ⟨ix81, hv81⟩ : ∃ i, LV (D25.at L) L i a52 ((sgl list1 0 x_29).length) c52 (sgl list1 0 x_29) := ⟨_, by rw [hL78]; exact (LV.grow D25_lifts (fun r hr => List.mem_append_right _ hr) hv64).app _⟩
        obtain ⟨ix82, hv82⟩ : ∃ i, Bx L i arKey3 rKey3.length crKey3 rKey3 := ⟨_, by rw [hL78]; exact hv65.app _⟩
        obtain ⟨ix83, hv83⟩ : ∃ i, Bx L i arValue4 rValue4.length crValue4 rValue4 := ⟨_, by rw [hL78]; exact hv66.app _⟩
        have ho84 : LO (D25.at LP) [] ay0_55 py0_56 (x_54).length cy0_58 Fy0_59 x_54 := by rw [hQ78]; exact LO.grow D25_lifts (fun r hr => List.mem_append_right _ hr) hd60_0
        have hp85 : ∃ i, Bx LP i ay0_1_72 x_69.length cy0_1_73 x_69 := by rw [hQ78]; exact Bx.lift hf77_0 (fun r hr => List.mem_append_left _ hr)
        obtain ⟨ix85, hv85⟩ := Bx.lift hp85.choose_spec hLP
        have hp86 : ∃ i, Bx LP i ay0_2_75 x_70.length cy0_2_76 x_70 := by rw [hQ78]; exact Bx.lift hf77_1 (fun r hr => List.mem_append_left _ hr)
        obtain ⟨ix86, hv86⟩ := Bx.lift hp86.choose_spec hLP
        refine ⟨_, rfl, .inr ⟨rfl, ?_⟩⟩
        refine Plan.buildLO (D := (D25.at LP)) (sz := 3) h78 [(((ay0_1_72, cy0_1_73), (ay0_2_75, cy0_2_76)), ((x_68, x_69, x_70) : (Int × (List Byte) × (List Byte))))] FPack.slu22 FPack.sz25 FPack.zv25 (by decide) (by decide) rfl rfl rfl rfl (by exact (List.forall_mem_cons.2 ⟨⟨hp85, hp86⟩, (fun _ h => nomatch h)⟩)) (EffO.keep PIn.nil) fun b88 w88 F88 hb88 ho88 h88 => ?_
        replace ho88 : LO (D25.at LP) [] (some ⟨b88, 0, none⟩) (some b88) ([(x_68, x_69, x_70)] : List (Int × (List Byte) × (List Byte))).length 1 F88 ([(x_68, x_69, x_70)] : List (Int × (List Byte) × (List Byte))) := ho88.re (fun _ _ h => h)
        obtain ⟨hc90, hR⟩ := hR
        refine Plan.appendLO (D := (D25.at LP)) (X := x_54) (Y := ([(x_68, x_69, x_70)] : List (Int × (List Byte) × (List Byte)))) (sz := 3) h88 ((none, 0), (none, 0)) ((0 : Int), ([] : List Byte), ([] : List Byte)) 1 ho84 rfl FPack.el22 rfl FPack.slu22 rfl rfl rfl rfl (LO.lvf EL.at_flat ho88 0 rfl) (fun _ _ h => h) hc90.1 hc90.2 (fun _ => EffO.keep PIn.nil) fun a89 pb89 cap89 F89 w89 ho89 h89 => ?_
        simp only [List.cons_append, List.nil_append, List.set_cons_zero, List.set_cons_succ] at h89
        replace ho89 : LO (D25.at LP) [] a89 pb89 (x_54 ++ ([(x_68, x_69, x_70)] : List (Int × (List Byte) × (List Byte)))).length cap89 F89 (x_54 ++ ([(x_68, x_69, x_70)] : List (Int × (List Byte) × (List Byte)))) := ho89.re (fun _ _ h => h)
        obtain ⟨x_92, hr91, hR⟩ := hR
        refine Plan.call (vs := [.slice abehind41 behind41.length cbehind41]) rfl FPack.call62 rfl (pack_twins_ok (by exact (LV.grow D25_lifts (fun r hr => List.mem_append_right [_, _, _, _, _] ((fun _ h => h) r hr)) (hv80.app [_, _, _, _, _]))) hr91 h89) ?_
        rintro _ w98 ⟨C98, ay0_93, py0_94, ny0_95, cy0_96, Fy0_97, rfl, h98, hf98_0⟩
        replace h98 := St.pool (N := [_]) (R := [_, _, _, _, _]) h98
        obtain ⟨L, hL99⟩ : ∃ X, X = C98 ++ L := ⟨_, rfl⟩
        obtain ⟨LP, hQ99⟩ : ∃ X, X = C98 ++ LP := ⟨_, rfl⟩
        replace hLP : ∀ r ∈ LP, r ∈ L := by rw [hQ99, hL99]; exact frMemGrow hLP
        have h99 := St.re (N := [_, _, _, _, _, _]) hL99 h98
        simp only [List.cons_append, List.nil_append] at h99
        replace hFr : Fr2 _ _ L LP := hFr.step hL99 hQ99
        obtain ⟨ix100, hv100⟩ : ∃ i, LV (D25.at L) L i alist1 list1.length clist1 list1 := ⟨_, by rw [hL99]; exact (LV.grow D25_lifts (fun r hr => List.mem_append_right _ hr) hv79).app _⟩
        obtain ⟨ix101, hv101⟩ : ∃ i, LV (D25.at L) L i abehind41 behind41.length cbehind41 behind41 := ⟨_, by rw [hL99]; exact (LV.grow D25_lifts (fun r hr => List.mem_append_right _ hr) hv80).app _⟩
        obtain ⟨ix102, hv102⟩ : ∃ i, LV (D25.at L) L i a52 ((sgl list1 0 x_29).length) c52 (sgl list1 0 x_29) := ⟨_, by rw [hL99]; exact (LV.grow D25_lifts (fun r hr => List.mem_append_right _ hr) hv81).app _⟩
        obtain ⟨ix103, hv103⟩ : ∃ i, Bx L i arKey3 rKey3.length crKey3 rKey3 := ⟨_, by rw [hL99]; exact hv82.app _⟩
        obtain ⟨ix104, hv104⟩ : ∃ i, Bx L i arValue4 rValue4.length crValue4 rValue4 := ⟨_, by rw [hL99]; exact hv83.app _⟩
        obtain ⟨ix105, hv105⟩ : ∃ i, Bx L i ay0_1_72 x_69.length cy0_1_73 x_69 := ⟨_, by rw [hL99]; exact hv85.app _⟩
        have hp105 : ∃ i, Bx LP i ay0_1_72 x_69.length cy0_1_73 x_69 := by rw [hQ99]; exact ⟨_, hp85.choose_spec.app _⟩
        obtain ⟨ix106, hv106⟩ : ∃ i, Bx L i ay0_2_75 x_70.length cy0_2_76 x_70 := ⟨_, by rw [hL99]; exact hv86.app _⟩
        have hp106 : ∃ i, Bx LP i ay0_2_75 x_70.length cy0_2_76 x_70 := by rw [hQ99]; exact ⟨_, hp86.choose_spec.app _⟩
        have ho107 : LO (D25.at LP) [] (some ⟨b88, 0, none⟩) (some b88) (([(x_68, x_69, x_70)] : List (Int × (List Byte) × (List Byte)))).length 1 F88 ([(x_68, x_69, x_70)] : List (Int × (List Byte) × (List Byte))) := by rw [hQ99]; exact LO.grow D25_lifts (fun r hr => List.mem_append_right _ hr) ho88
        have ho108 : LO (D25.at LP) [] a89 pb89 ((x_54 ++ ([(x_68, x_69, x_70)] : List (Int × (List Byte) × (List Byte))))).length cap89 F89 (x_54 ++ ([(x_68, x_69, x_70)] : List (Int × (List Byte) × (List Byte)))) := by rw [hQ99]; exact LO.grow D25_lifts (fun r hr => List.mem_append_right _ hr) ho89
        obtain rfl := hf98_0.hl
        have hd98_0 : LO (D25.at LP) [] ay0_93 py0_94 (x_92).length cy0_96 Fy0_97 x_92 := LO.grow D25_lifts (fun r hr => (by rw [hQ99]; exact List.mem_append_left _ hr)) hf98_0
        refine ⟨_, rfl, .inl ⟨PIn.keep PIn.nil h99, ?_⟩⟩
        obtain ⟨hc110, hR⟩ := hR
        refine Plan.appendLO (D := (D25.at LP)) (X := (x_54 ++ ([(x_68, x_69, x_70)] : List (Int × (List Byte) × (List Byte))))) (Y := x_92) (sz := 3) h99 ((none, 0), (none, 0)) ((0 : Int), ([] : List Byte), ([] : List Byte)) 2 ho108 rfl FPack.el22 rfl FPack.slu22 rfl rfl rfl rfl (LO.lvf EL.at_flat hd98_0 0 rfl) (fun _ _ h => h) hc110.1 hc110.2 (fun _ => EffO.keep PIn.nil) fun a109 pb109 cap109 F109 w109 ho109 h109 => ?_
        simp only [List.cons_append, List.nil_append, List.set_cons_zero, List.set_cons_succ] at h109
        replace ho109 : LO (D25.at LP) [] a109 pb109 ((x_54 ++ ([(x_68, x_69, x_70)] : List (Int × (List Byte) × (List Byte)))) ++ x_92).length cap109 F109 ((x_54 ++ ([(x_68, x_69, x_70)] : List (Int × (List Byte) × (List Byte)))) ++ x_92) := ho109.re (fun _ _ h => h)
        refine Plan.assign_slice rfl rfl ?_
        refine Plan.assign_int rfl rfl ?_
        refine Plan.nil ?_
        refine hK49 _ _ ?_; clear hK49
        refine W.ret (finR_ret ?_)
        have h111 := St.pickT (C := [_, _, _, _, _, _]) h109 [2] (by decide)
        simp only [pick, List.filterMap_cons, List.filterMap_nil, List.getElem?_cons_zero, List.getElem?_cons_succ, List.cons_append, List.nil_append] at h111
        subst r
        refine RetOk.mk (.tmp_slice rfl (.tmp_int rfl .nil)) ?_
        obtain ⟨CF, hx1, hx2⟩ := hFr
        simp only [List.append_nil] at hx2
        subst hx1
        subst hx2
        exact ⟨_, a109, pb109, ((x_54 ++ ([(x_68, x_69, x_70)] : List (Int × (List Byte) × (List Byte)))) ++ x_92).length, cap109, F109, rfl, h111, ho109⟩


set_option maxRecDepth 8000 in
set_option maxHeartbeats 1000000 in
theorem pack_Find_ok {B : Nat} {w0 w : World} {L : List Rg} {list1 : List (Int × (List Byte) × (List Byte))} {alist1 : Option Addr} {nlist1 clist1 ilist1 : Nat} (hlist1 : LV (D25.at L) L ilist1 alist1 nlist1 clist1 list1) {table2 : Int} {key3 : List Byte} {akey3 : Option Addr} {nkey3 ckey3 ikey3 : Nat} (hkey3 : Bx L ikey3 akey3 nkey3 ckey3 key3) {r : (Nat × Bool)} (hR : pack_Find list1 table2 key3 r) (HST : St B w0 (L) w) :
    Calls Try.prog 20 #[.slice alist1 nlist1 clist1, .int .i64 table2, .slice akey3 nkey3 ckey3] w fun e w' => e = .returned (.tuple #[VN r.1, .bool r.2]) ∧ St B w0 (L) w' := by
  refine W.enter 18 Try.func20 rfl rfl rfl ?_
  unfold pack_Find at hR
  have elist1 := hlist1.hl; subst elist1
  have ekey3 := hkey3.hl; subst ekey3
  refine W.seq_k fun K4 hK4 => ?_
  refine W.regionT [(0, true), (1, true)] (by kernel_rfl) ?_
  refine Plan.assign_int rfl rfl ?_
  refine Plan.assign_bool rfl rfl ?_
  refine Plan.nil ?_
  refine hK4 _ _ ?_; clear hK4
  refine W.seq_k fun K5 hK5 => ?_
  refine W.seq_k fun K6 hK6 => ?_
  refine W.regionT [(0, true), (1, false), (2, true)] (by kernel_rfl) ?_
  refine Plan.move_slice rfl rfl ?_
  obtain ⟨x_8, hr7, hR⟩ := hR
  refine Plan.call (vs := [.slice alist1 list1.length clist1]) rfl FPack.call60 rfl (pack_sorted_ok (by exact (LV.grow D25_lifts (fun r hr => List.mem_append_right [] ((fun _ h => h) r hr)) hlist1)) hr7 HST) ?_
  rintro _ w9 ⟨rfl, h9⟩
  refine ⟨_, rfl, .inl ⟨PIn.keep PIn.nil h9, ?_⟩⟩
  refine Plan.cmpP (a := (((x_8 : Nat) : Int) : Int)) (b := (0 : Int)) (p := x_8 ≠ 0) rfl rfl rfl rfl icmp_neN ?_
  refine Plan.nil ?_
  refine hK6 _ _ ?_; clear hK6
  by_cases hc10 : x_8 ≠ 0
  ·
    replace hR := ifT hR hc10
    refine W.condT (congrArg Value.bool (decide_eq_true hc10)) ?_
    refine W.seq_k fun K11 hK11 => ?_
    refine W.regionT [(0, true), (1, true)] (by kernel_rfl) ?_
    refine Plan.assign_int rfl rfl ?_
    refine Plan.assign_bool rfl rfl ?_
    refine Plan.nil ?_
    refine hK11 _ _ ?_; clear hK11
    refine W.ret (thenR_ret (finR_ret ?_))
    subst r
    refine RetOk.mk (.tmp_int rfl (.tmp_bool rfl .nil)) ?_
    exact ⟨rfl, h9⟩
  ·
    replace hR := ifF hR hc10
    refine W.condF (congrArg Value.bool (decide_eq_false hc10)) ?_
    refine W.skip ?_
    refine hK5 _ _ ?_; clear hK5
    refine W.seq_k fun K12 hK12 => ?_
    refine W.regionT [(0, true), (1, true), (2, true), (3, true), (4, false), (5, true), (6, true), (7, true), (8, true)] (by kernel_rfl) ?_
    refine Plan.move_slice rfl rfl ?_
    refine Plan.move_int rfl rfl ?_
    refine Plan.move_slice rfl rfl ?_
    refine Plan.buildP (ps := [(1, fun _ => .int .i64 table2), (1, fun _ => .slice akey3 key3.length ckey3), (1, fun _ => .slice none 0 0)]) FPack.pl25 (by decide) FPack.z25 rfl rfl (.one [] [(1, fun _ => .slice none 0 0), (1, fun _ => .slice none 0 0)] (fun _ => VN 0) rfl rfl (.one [(1, fun _ => .int .i64 table2)] [(1, fun _ => .slice none 0 0)] (fun _ => .slice none 0 0) rfl rfl .nil)) ?_
    obtain ⟨x_14, x_15, hr13, hR⟩ := hR
    refine Plan.call (vs := [.slice alist1 list1.length clist1, AG [(1, fun _ => .int .i64 table2), (1, fun _ => .slice akey3 key3.length ckey3), (1, fun _ => .slice none 0 0)]]) rfl FPack.call61 rfl (pack_place_ok (by exact (LV.grow D25_lifts (fun r hr => List.mem_append_right [] ((fun _ h => h) r hr)) hlist1)) hkey3 (by exact (Bx.nil 0)) hr13 h9) ?_
    rintro _ w16 ⟨rfl, h16⟩
    refine ⟨_, rfl, .inl ⟨PIn.keep PIn.nil h16, ?_⟩⟩
    refine Plan.extract_int rfl rfl rfl ?_
    refine Plan.extract_bool rfl rfl rfl ?_
    refine Plan.assign_int rfl rfl ?_
    refine Plan.assign_bool rfl rfl ?_
    refine Plan.nil ?_
    refine hK12 _ _ ?_; clear hK12
    refine W.ret (finR_ret ?_)
    subst r
    refine RetOk.mk (.tmp_int rfl (.tmp_bool rfl .nil)) ?_
    exact ⟨rfl, h16⟩


set_option maxRecDepth 8000 in
set_option maxHeartbeats 1000000 in
theorem pack_Delete_ok {B : Nat} {w0 w : World} {L : List Rg} {list1 : List (Int × (List Byte) × (List Byte))} {alist1 : Option Addr} {nlist1 clist1 ilist1 : Nat} (hlist1 : LV (D25.at L) L ilist1 alist1 nlist1 clist1 list1) {table2 : Int} {key3 : List Byte} {akey3 : Option Addr} {nkey3 ckey3 ikey3 : Nat} (hkey3 : Bx L ikey3 akey3 nkey3 ckey3 key3) {r : ((List (Int × (List Byte) × (List Byte))) × Nat)} (hR : pack_Delete list1 table2 key3 r) (HST : St B w0 (L) w) :
    Calls Try.prog 21 #[.slice alist1 nlist1 clist1, .int .i64 table2, .slice akey3 nkey3 ckey3] w fun e w' => ∃ C : List Rg, ∃ ay0 : Option Addr, ∃ py0 : Option Nat, ∃ ny0 : Nat, ∃ cy0 : Nat, ∃ Fy0 : Nat → Value, e = .returned (.tuple #[.slice ay0 ny0 cy0, VN r.2]) ∧ St B w0 (⟨py0, 0, cy0 * 3, Fy0, true⟩ :: (C ++ L)) w' ∧ LO (D25.at C) [] ay0 py0 ny0 cy0 Fy0 r.1 := by
  refine W.enter 36 Try.func21 rfl rfl rfl ?_
  unfold pack_Delete at hR
  obtain ⟨LP, hLPn⟩ : ∃ X, X = ([] : List Rg) := ⟨_, rfl⟩
  have hLP : ∀ r ∈ LP, r ∈ L := by rw [hLPn]; exact fun r hr => nomatch hr
  have hFr : Fr2 L [] L LP := by rw [hLPn]; exact Fr2.refl _ _
  have elist1 := hlist1.hl; subst elist1
  have ekey3 := hkey3.hl; subst ekey3
  refine W.seq_k fun K4 hK4 => ?_
  refine W.regionT [(0, true), (1, true)] (by kernel_rfl) ?_
  refine Plan.assign_slice rfl rfl ?_
  refine Plan.assign_int rfl rfl ?_
  refine Plan.nil ?_
  refine hK4 _ _ ?_; clear hK4
  refine W.seq_k fun K5 hK5 => ?_
  refine W.seq_k fun K6 hK6 => ?_
  refine W.regionT [(0, true), (1, false), (2, true)] (by kernel_rfl) ?_
  refine Plan.move_slice rfl rfl ?_
  obtain ⟨x_8, hr7, hR⟩ := hR
  refine Plan.call (vs := [.slice alist1 list1.length clist1]) rfl FPack.call60 rfl (pack_sorted_ok (by exact (LV.grow D25_lifts (fun r hr => List.mem_append_right [] ((fun _ h => h) r hr)) hlist1)) hr7 HST) ?_
  rintro _ w9 ⟨rfl, h9⟩
  refine ⟨_, rfl, .inl ⟨PIn.keep PIn.nil h9, ?_⟩⟩
  refine Plan.assign_int rfl rfl ?_
  refine Plan.nil ?_
  refine hK6 _ _ ?_; clear hK6
  refine W.seq_k fun K10 hK10 => ?_
  refine W.regionT [(0, true), (1, true)] (by kernel_rfl) ?_
  refine Plan.move_int rfl rfl ?_
  refine Plan.cmpP (a := (((x_8 : Nat) : Int) : Int)) (b := (0 : Int)) (p := x_8 ≠ 0) rfl rfl rfl rfl icmp_neN ?_
  refine Plan.nil ?_
  refine hK10 _ _ ?_; clear hK10
  by_cases hc11 : x_8 ≠ 0
  ·
    replace hR := ifT hR hc11
    refine W.condT (congrArg Value.bool (decide_eq_true hc11)) ?_
    refine W.seq_k fun K12 hK12 => ?_
    refine W.regionT [(0, true), (1, true), (2, true)] (by kernel_rfl) ?_
    refine Plan.move_int rfl rfl ?_
    refine Plan.assign_slice rfl rfl ?_
    refine Plan.assign_int rfl rfl ?_
    refine Plan.nil ?_
    refine hK12 _ _ ?_; clear hK12
    refine W.ret (thenR_ret (finR_ret ?_))
    have h13 : St B w0 (⟨none, 0, 0 * 3, fun _ => undef, true⟩ :: _) _ := h9.nilE (fun _ => undef)
    subst r
    refine RetOk.mk (.tmp_slice rfl (.tmp_int rfl .nil)) ?_
    subst hLPn
    exact ⟨[], none, none, 0, 0, (fun _ => undef), rfl, h13, LO.nil⟩
  ·
    replace hR := ifF hR hc11
    refine W.condF (congrArg Value.bool (decide_eq_false hc11)) ?_
    refine W.skip ?_
    refine hK5 _ _ ?_; clear hK5
    refine W.seq_k fun K14 hK14 => ?_
    refine W.regionT [(0, true), (1, true), (2, true), (3, true), (4, false), (5, true), (6, true), (7, true), (8, true), (9, true)] (by kernel_rfl) ?_
    refine Plan.move_slice rfl rfl ?_
    refine Plan.move_int rfl rfl ?_
    refine Plan.move_slice rfl rfl ?_
    refine Plan.buildP (ps := [(1, fun _ => .int .i64 table2), (1, fun _ => .slice akey3 key3.length ckey3), (1, fun _ => .slice none 0 0)]) FPack.pl25 (by decide) FPack.z25 rfl rfl (.one [] [(1, fun _ => .slice none 0 0), (1, fun _ => .slice none 0 0)] (fun _ => VN 0) rfl rfl (.one [(1, fun _ => .int .i64 table2)] [(1, fun _ => .slice none 0 0)] (fun _ => .slice none 0 0) rfl rfl .nil)) ?_
    obtain ⟨x_16, x_17, hr15, hR⟩ := hR
    refine Plan.call (vs := [.slice alist1 list1.length clist1, AG [(1, fun _ => .int .i64 table2), (1, fun _ => .slice akey3 key3.length ckey3), (1, fun _ => .slice none 0 0)]]) rfl FPack.call61 rfl (pack_place_ok (by exact (LV.grow D25_lifts (fun r hr => List.mem_append_right [] ((fun _ h => h) r hr)) hlist1)) hkey3 (by exact (Bx.nil 0)) hr15 h9) ?_
    rintro _ w18 ⟨rfl, h18⟩
    refine ⟨_, rfl, .inl ⟨PIn.keep PIn.nil h18, ?_⟩⟩
    refine Plan.move_tuple rfl rfl ?_
    refine Plan.extract_int rfl rfl rfl ?_
    refine Plan.extract_bool rfl rfl rfl ?_
    refine Plan.assign_int rfl rfl ?_
    refine Plan.assign_bool rfl rfl ?_
    refine Plan.nil ?_
    refine hK14 _ _ ?_; clear hK14
    refine W.seq_k fun K19 hK19 => ?_
    refine W.seq_k fun K20 hK20 => ?_
    refine W.regionT [(0, true), (1, true)] (by kernel_rfl) ?_
    refine Plan.move_bool rfl rfl ?_
    refine Plan.not rfl rfl ?_
    refine Plan.nil ?_
    refine hK20 _ _ ?_; clear hK20
    by_cases hc21 : x_17 = true
    ·
      replace hR := ifT hR hc21
      refine W.condF (congrArg Value.bool (congrArg Bool.not hc21)) ?_
      refine W.skip ?_
      refine hK19 _ _ ?_; clear hK19
      refine W.seq_k fun K22 hK22 => ?_
      refine W.regionD FPack.mixed [(0, true), (1, true), (2, true), (4, true), (5, true), (6, true), (7, true), (3, false), (8, false), (9, false), (10, true), (11, true)] (by kernel_rfl) ?_
      have h23 := h18.drew
      refine Plan.move_slice rfl rfl ?_
      refine Plan.move_int rfl rfl ?_
      obtain ⟨hc24, hR⟩ := hR
      refine Plan.slLV (D := (D25.at L)) (sz := 3) (lo := 0) (hi := x_16) hlist1 rfl FPack.sl22 rfl rfl rfl ⟨_, rfl⟩ hc24 fun a25 c25 hv25 => ?_
      refine Plan.move_slice rfl rfl ?_
      refine Plan.move_int rfl rfl ?_
      obtain ⟨hc26, hR⟩ := hR
      refine Plan.addN (a := x_16) (b := 1) rfl rfl rfl (by omega) ?_
      obtain ⟨hc27, hR⟩ := hR
      refine Plan.slLV (D := (D25.at L)) (sz := 3) (lo := (x_16 + 1)) (hi := list1.length) hlist1 rfl FPack.sl22 rfl rfl ⟨_, rfl⟩ rfl hc27 fun a28 c28 hv28 => ?_
      obtain ⟨x_30, hr29, hR⟩ := hR
      refine Plan.call (vs := [.slice a25 ((sgl list1 0 x_16).length) c25]) rfl FPack.call62 rfl (pack_twins_ok (by exact (LV.grow D25_lifts (fun r hr => List.mem_append_right [] ((fun _ h => h) r hr)) hv25)) hr29 h23) ?_
      rintro _ w36 ⟨C36, ay0_31, py0_32, ny0_33, cy0_34, Fy0_35, rfl, h36, hf36_0⟩
      replace h36 := St.pool (N := [_]) (R := []) h36
      obtain ⟨L, hL37⟩ : ∃ X, X = C36 ++ L := ⟨_, rfl⟩
      obtain ⟨LP, hQ37⟩ : ∃ X, X = C36 ++ LP := ⟨_, rfl⟩
      replace hLP : ∀ r ∈ LP, r ∈ L := by rw [hQ37, hL37]; exact frMemGrow hLP
      have h37 := St.re (N := [_]) hL37 h36
      simp only [List.cons_append, List.nil_append] at h37
      replace hFr : Fr2 _ _ L LP := hFr.step hL37 hQ37
      obtain ⟨ix38, hv38⟩ : ∃ i, LV (D25.at L) L i alist1 list1.length clist1 list1 := ⟨_, by rw [hL37]; exact (LV.grow D25_lifts (fun r hr => List.mem_append_right _ hr) hlist1).app _⟩
      obtain ⟨ix39, hv39⟩ : ∃ i, Bx L i akey3 key3.length ckey3 key3 := ⟨_, by rw [hL37]; exact hkey3.app _⟩
      obtain ⟨ix40, hv40⟩ : ∃ i, LV (D25.at L) L i a25 ((sgl list1 0 x_16).length) c25 (sgl list1 0 x_16) := ⟨_, by rw [hL37]; exact (LV.grow D25_lifts (fun r hr => List.mem_append_right _ hr) hv25).app _⟩
      obtain ⟨ix41, hv41⟩ : ∃ i, LV (D25.at L) L i a28 ((sgl list1 (x_16 + 1) list1.length).length) c28 (sgl list1 (x_16 + 1) list1.length) := ⟨_, by rw [hL37]; exact (LV.grow D25_lifts (fun r hr => List.mem_append_right _ hr) hv28).app _⟩
      obtain rfl := hf36_0.hl
      have hd36_0 : LO (D25.at LP) [] ay0_31 py0_32 (x_30).length cy0_34 Fy0_35 x_30 := LO.grow D25_lifts (fun r hr => (by rw [hQ37]; exact List.mem_append_left _ hr)) hf36_0
      refine ⟨_, rfl, .inl ⟨PIn.keep PIn.nil h37, ?_⟩⟩
      obtain ⟨x_43, hr42, hR⟩ := hR
      refine Plan.call (vs := [.slice a28 ((sgl list1 (x_16 + 1) list1.length).length) c28]) rfl FPack.call62 rfl (pack_twins_ok (by exact (LV.grow D25_lifts (fun r hr => List.mem_append_right [_] ((fun _ h => h) r hr)) (hv41.app [_]))) hr42 h37) ?_
      rintro _ w49 ⟨C49, ay0_44, py0_45, ny0_46, cy0_47, Fy0_48, rfl, h49, hf49_0⟩
      replace h49 := St.pool (N := [_]) (R := [_]) h49
      obtain ⟨L, hL50⟩ : ∃ X, X = C49 ++ L := ⟨_, rfl⟩
      obtain ⟨LP, hQ50⟩ : ∃ X, X = C49 ++ LP := ⟨_, rfl⟩
      replace hLP : ∀ r ∈ LP, r ∈ L := by rw [hQ50, hL50]; exact frMemGrow hLP
      have h50 := St.re (N := [_, _]) hL50 h49
      simp only [List.cons_append, List.nil_append] at h50
      replace hFr : Fr2 _ _ L LP := hFr.step hL50 hQ50
      obtain ⟨ix51, hv51⟩ : ∃ i, LV (D25.at L) L i alist1 list1.length clist1 list1 := ⟨_, by rw [hL50]; exact (LV.grow D25_lifts (fun r hr => List.mem_append_right _ hr) hv38).app _⟩
      obtain ⟨ix52, hv52⟩ : ∃ i, Bx L i akey3 key3.length ckey3 key3 := ⟨_, by rw [hL50]; exact hv39.app _⟩
      obtain ⟨ix53, hv53⟩ : ∃ i, LV (D25.at L) L i a25 ((sgl list1 0 x_16).length) c25 (sgl list1 0 x_16) := ⟨_, by rw [hL50]; exact (LV.grow D25_lifts (fun r hr => List.mem_append_right _ hr) hv40).app _⟩
      obtain ⟨ix54, hv54⟩ : ∃ i, LV (D25.at L) L i a28 ((sgl list1 (x_16 + 1) list1.length).length) c28 (sgl list1 (x_16 + 1) list1.length) := ⟨_, by rw [hL50]; exact (LV.grow D25_lifts (fun r hr => List.mem_append_right _ hr) hv41).app _⟩
      have ho55 : LO (D25.at LP) [] ay0_31 py0_32 (x_30).length cy0_34 Fy0_35 x_30 := by rw [hQ50]; exact LO.grow D25_lifts (fun r hr => List.mem_append_right _ hr) hd36_0
      obtain rfl := hf49_0.hl
      have hd49_0 : LO (D25.at LP) [] ay0_44 py0_45 (x_43).length cy0_47 Fy0_48 x_43 := LO.grow D25_lifts (fun r hr => (by rw [hQ50]; exact List.mem_append_left _ hr)) hf49_0
      refine ⟨_, rfl, .inl ⟨PIn.keep PIn.nil h50, ?_⟩⟩
      obtain ⟨hc57, hR⟩ := hR
      refine Plan.appendLO (D := (D25.at LP)) (X := x_30) (Y := x_43) (sz := 3) h50 ((none, 0), (none, 0)) ((0 : Int), ([] : List Byte), ([] : List Byte)) 1 ho55 rfl FPack.el22 rfl FPack.slu22 rfl rfl rfl rfl (LO.lvf EL.at_flat hd49_0 0 rfl) (fun _ _ h => h) hc57.1 hc57.2 (fun _ => EffO.keep PIn.nil) fun a56 pb56 cap56 F56 w56 ho56 h56 => ?_
      simp only [List.cons_append, List.nil_append, List.set_cons_zero, List.set_cons_succ] at h56
      replace ho56 : LO (D25.at LP) [] a56 pb56 (x_30 ++ x_43).length cap56 F56 (x_30 ++ x_43) := ho56.re (fun _ _ h => h)
      refine Plan.assign_slice rfl rfl ?_
      refine Plan.assign_int rfl rfl ?_
      refine Plan.nil ?_
      refine hK22 _ _ ?_; clear hK22
      refine W.ret (finR_ret ?_)
      have h58 := St.pickT (C := [_, _]) h56 [1] (by decide)
      simp only [pick, List.filterMap_cons, List.filterMap_nil, List.getElem?_cons_zero, List.getElem?_cons_succ, List.cons_append, List.nil_append] at h58
      subst r
      refine RetOk.mk (.tmp_slice rfl (.tmp_int rfl .nil)) ?_
      obtain ⟨CF, hx1, hx2⟩ := hFr
      simp only [List.append_nil] at hx2
      subst hx1
      subst hx2
      exact ⟨_, a56, pb56, (x_30 ++ x_43).length, cap56, F56, rfl, h58, ho56⟩
    ·
      replace hR := ifF hR hc21
      refine W.condT (congrArg Value.bool (congrArg Bool.not (Bool.eq_false_iff.2 hc21))) ?_
      refine W.seq_k fun K59 hK59 => ?_
      refine W.regionT [(0, true), (1, true)] (by kernel_rfl) ?_
      refine Plan.assign_slice rfl rfl ?_
      refine Plan.assign_int rfl rfl ?_
      refine Plan.nil ?_
      refine hK59 _ _ ?_; clear hK59
      refine W.ret (thenR_ret (finR_ret ?_))
      have h60 : St B w0 (⟨none, 0, 0 * 3, fun _ => undef, true⟩ :: _) _ := h18.nilE (fun _ => undef)
      subst r
      refine RetOk.mk (.tmp_slice rfl (.tmp_int rfl .nil)) ?_
      subst hLPn
      exact ⟨[], none, none, 0, 0, (fun _ => undef), rfl, h60, LO.nil⟩


set_option maxRecDepth 8000 in
set_option maxHeartbeats 1000000 in
theorem pack_Size_ok {B : Nat} {w0 w : World} {L : List Rg} {rTable1 : Int} {rKey2 : List Byte} {arKey2 : Option Addr} {nrKey2 crKey2 irKey2 : Nat} (hrKey2 : Bx L irKey2 arKey2 nrKey2 crKey2 rKey2) {rValue3 : List Byte} {arValue3 : Option Addr} {nrValue3 crValue3 irValue3 : Nat} (hrValue3 : Bx L irValue3 arValue3 nrValue3 crValue3 rValue3) {r : Nat} (hR : pack_Size rTable1 rKey2 rValue3 r) (HST : St B w0 (L) w) :
    Calls Try.prog 26 #[AG [(1, fun _ => .int .i64 rTable1), (1, fun _ => .slice arKey2 nrKey2 crKey2), (1, fun _ => .slice arValue3 nrValue3 crValue3)]] w fun e w' => e = .returned (VN r) ∧ St B w0 (L) w' := by
  refine W.enter 11 Try.func26 rfl rfl rfl ?_
  unfold pack_Size at hR
  have erKey2 := hrKey2.hl; subst erKey2
  have erValue3 := hrValue3.hl; subst erValue3
  refine W.seq_k fun K4 hK4 => ?_
  refine W.regionT [(0, false), (1, true)] (by kernel_rfl) ?_
  refine Plan.boxA HST rfl rfl PIn.nil fun b5 w5 hb5 h5 => ?_
  simp only [rngs, Nat.zero_add, Nat.reduceAdd, List.cons_append, List.nil_append] at h5
  refine Plan.assign_int rfl rfl ?_
  refine Plan.nil ?_
  refine hK4 _ _ ?_; clear hK4
  refine W.seq_k fun K6 hK6 => ?_
  refine W.regionT [(0, true), (1, true), (2, true), (3, true), (4, true), (5, true), (6, true), (7, true), (8, true)] (by kernel_rfl) ?_
  refine Plan.fieldAddr 1 FPack.fld25_1 rfl rfl ?_
  refine Plan.load0 h5 1 rfl rfl rfl (by omega) FPack.sc23 ?_
  refine Plan.len FPack.isl23 rfl rfl ?_
  obtain ⟨hc7, hR⟩ := hR
  refine Plan.addN (a := 4) (b := rKey2.length) rfl rfl rfl (by omega) ?_
  refine Plan.fieldAddr 2 FPack.fld25_2 rfl rfl ?_
  refine Plan.load0 h5 2 rfl rfl rfl (by omega) FPack.sc23 ?_
  refine Plan.len FPack.isl23 rfl rfl ?_
  obtain ⟨hc8, hR⟩ := hR
  refine Plan.addN (a := (4 + rKey2.length)) (b := rValue3.length) rfl rfl rfl (by omega) ?_
  refine Plan.assign_int rfl rfl ?_
  refine Plan.nil ?_
  refine hK6 _ _ ?_; clear hK6
  refine W.ret (finR_ret ?_)
  have h9 := St.pickT (C := [_, _, _]) h5 [] (by decide)
  simp only [pick, List.filterMap_cons, List.filterMap_nil, List.getElem?_cons_zero, List.getElem?_cons_succ, List.cons_append, List.nil_append] at h9
  subst r
  refine RetOk.mk (.tmp_int rfl .nil) ?_
  exact ⟨rfl, h9⟩


set_option maxRecDepth 8000 in
set_option maxHeartbeats 1000000 in
theorem pack_Pack_ok {B : Nat} {w0 w : World} {L : List Rg} {list1 : List (Int × (List Byte) × (List Byte))} {alist1 : Option Addr} {nlist1 clist1 ilist1 : Nat} (hlist1 : LV (D25.at L) L ilist1 alist1 nlist1 clist1 list1) {r : ((List Int) × Nat)} (hR : pack_Pack list1 r) (HST : St B w0 (L) w) :
    Calls Try.prog 25 #[.slice alist1 nlist1 clist1] w fun e w' => ∃ ay0 : Option Addr, ∃ py0 : Option Nat, ∃ ny0 : Nat, ∃ cy0 : Nat, ∃ Fy0 : Nat → Value, e = .returned (.tuple #[.slice ay0 ny0 cy0, VN r.2]) ∧ St B w0 (⟨py0, 0, cy0 * 1, Fy0, true⟩ :: L) w' ∧ LO D3 [] ay0 py0 ny0 cy0 Fy0 r.1 := by
  refine W.enter 41 Try.func25 rfl rfl rfl ?_
  unfold pack_Pack at hR
  have elist1 := hlist1.hl; subst elist1
  refine W.seq_k fun K2 hK2 => ?_
  refine W.regionT [(0, true), (1, true)] (by kernel_rfl) ?_
  refine Plan.assign_slice rfl rfl ?_
  refine Plan.assign_int rfl rfl ?_
  refine Plan.nil ?_
  refine hK2 _ _ ?_; clear hK2
  refine W.seq_k fun K3 hK3 => ?_
  refine W.seq_k fun K4 hK4 => ?_
  refine W.regionT [(0, true), (1, false), (2, true)] (by kernel_rfl) ?_
  refine Plan.move_slice rfl rfl ?_
  obtain ⟨x_6, hr5, hR⟩ := hR
  refine Plan.call (vs := [.slice alist1 list1.length clist1]) rfl FPack.call60 rfl (pack_sorted_ok (by exact (LV.grow D25_lifts (fun r hr => List.mem_append_right [] ((fun _ h => h) r hr)) hlist1)) hr5 HST) ?_
  rintro _ w7 ⟨rfl, h7⟩
  refine ⟨_, rfl, .inl ⟨PIn.keep PIn.nil h7, ?_⟩⟩
  refine Plan.assign_int rfl rfl ?_
  refine Plan.nil ?_
  refine hK4 _ _ ?_; clear hK4
  refine W.seq_k fun K8 hK8 => ?_
  refine W.regionT [(0, true), (1, true)] (by kernel_rfl) ?_
  refine Plan.move_int rfl rfl ?_
  refine Plan.cmpP (a := (((x_6 : Nat) : Int) : Int)) (b := (0 : Int)) (p := x_6 ≠ 0) rfl rfl rfl rfl icmp_neN ?_
  refine Plan.nil ?_
  refine hK8 _ _ ?_; clear hK8
  by_cases hc9 : x_6 ≠ 0
  ·
    replace hR := ifT hR hc9
    refine W.condT (congrArg Value.bool (decide_eq_true hc9)) ?_
    refine W.seq_k fun K10 hK10 => ?_
    refine W.regionT [(0, true), (1, true), (2, true)] (by kernel_rfl) ?_
    refine Plan.move_int rfl rfl ?_
    refine Plan.assign_slice rfl rfl ?_
    refine Plan.assign_int rfl rfl ?_
    refine Plan.nil ?_
    refine hK10 _ _ ?_; clear hK10
    refine W.ret (thenR_ret (finR_ret ?_))
    have h11 : St B w0 (⟨none, 0, 0 * 1, fun _ => undef, true⟩ :: _) _ := h7.nilE (fun _ => undef)
    subst r
    refine RetOk.mk (.tmp_slice rfl (.tmp_int rfl .nil)) ?_
    exact ⟨none, none, 0, 0, (fun _ => undef), rfl, h11, LO.nil⟩
  ·
    replace hR := ifF hR hc9
    refine W.condF (congrArg Value.bool (decide_eq_false hc9)) ?_
    refine W.skip ?_
    refine hK3 _ _ ?_; clear hK3
    refine W.seq_k fun K12 hK12 => ?_
    refine W.regionT [(0, true)] (by kernel_rfl) ?_
    refine Plan.assign_slice rfl rfl ?_
    refine Plan.nil ?_
    refine hK12 _ _ ?_; clear hK12
    refine W.seq_k fun K13 hK13 => ?_
    refine W.regionT [(0, true)] (by kernel_rfl) ?_
    refine Plan.assign_int rfl rfl ?_
    refine Plan.nil ?_
    refine hK13 _ _ ?_; clear hK13
    refine W.seq_k fun K14 hK14 => ?_
    refine W.seq_k fun K15 hK15 => ?_
    refine W.regionT [(0, true), (1, true), (2, true)] (by kernel_rfl) ?_
    refine Plan.move_slice rfl rfl ?_
    refine Plan.len FPack.isl22 rfl rfl ?_
    refine Plan.move_int rfl rfl ?_
    refine Plan.nil ?_
    refine hK15 _ _ ?_; clear hK15
    have h124 : St B w0 (⟨none, 0, 0 * 1, fun _ => undef, true⟩ :: _) _ := h7.nilE (fun _ => undef)
    obtain ⟨out122, hI123, hR0123⟩ := hR
    refine W.cutN (fun e w => ∃ y_out122 : List Int, out122 = y_out122 ∧ ∃ n_out122 : Nat, ∃ aout122 : Option Addr, ∃ pout122 : Option Nat, ∃ cout122 : Nat, ∃ Fout122 : Nat → Value, EnvHas e [(5, .slice aout122 n_out122 cout122)] ∧ St B w0 (⟨pout122, 0, cout122 * 1, Fout122, true⟩ :: L) w ∧ LO D3 [] aout122 pout122 n_out122 cout122 Fout122 y_out122) ?_ ?_
    ·
      refine W.block ?_
      refine W.iter hI123 (fun (s123 : ((List Int) × Int × Nat)) e w => ∃ n_out118 : Nat, ∃ aout118 : Option Addr, ∃ pout118 : Option Nat, ∃ cout118 : Nat, ∃ Fout118 : Nat → Value, EnvHas e [(5, .slice aout118 n_out118 cout118), (6, .int .i64 s123.2.1), (14, .slice alist1 list1.length clist1), (15, VN list1.length), (16, VN s123.2.2)] ∧ St B w0 (⟨pout118, 0, cout118 * 1, Fout118, true⟩ :: L) w ∧ LO D3 [] aout118 pout118 n_out118 cout118 Fout118 s123.1) ⟨0, none, none, 0, (fun _ => undef), (EnvHas.cons rfl (EnvHas.cons rfl (EnvHas.cons rfl (EnvHas.cons rfl (EnvHas.cons rfl EnvHas.nil))))), h124, LO.nil⟩ ?_
      rintro ⟨out118, left120, t121⟩ o123 hR hx123 ev125 wl125 ⟨n_out118, aout118, pout118, cout118, Fout118, he125, h125, hout118⟩
      try dsimp only at he125 h125 hout118
      obtain rfl : List.length (α := Int) out118 = n_out118 := hout118.hl
      obtain ⟨ev125, rfl⟩ := he125.open
      unfold pack_Pack_l0 at hR
      refine W.seq_k fun K126 hK126 => ?_
      refine W.regionT [(0, true)] (by kernel_rfl) ?_
      refine Plan.cmpP (a := (((t121 : Nat) : Int) : Int)) (b := (((list1.length : Nat) : Int) : Int)) (p := t121 < list1.length) rfl rfl rfl rfl icmp_ltN ?_
      refine Plan.nil ?_
      refine hK126 _ _ ?_; clear hK126
      refine W.seq_k fun K127 hK127 => ?_
      by_cases hc128 : t121 < list1.length
      ·
        replace hR := ifT hR hc128
        refine W.condT (congrArg Value.bool (decide_eq_true hc128)) ?_
        refine W.skip ?_
        refine hK127 _ _ ?_; clear hK127
        refine W.seq_k fun K129 hK129 => ?_
        refine W.block ?_
        refine W.seq_k fun K130 hK130 => ?_
        refine W.regionT [(0, true), (1, true), (2, false), (3, false)] (by kernel_rfl) ?_
        obtain ⟨hc131, hR⟩ := hR
        refine Plan.idxLVS (D := (D25.at L)) (j := t121) h125 (hlist1.app [_]) FPack.sl22 rfl rfl rfl hc131 ?_
        refine Plan.loadLV (D := (D25.at L)) (X := list1) (j := t121) (sz := 3) h125 ((0 : Int), ([] : List Byte), ([] : List Byte)) (hlist1.app [_]) rfl rfl hc131 rfl FPack.agg25 fun b132 r132 hs132 hr132 => ?_
        obtain ⟨⟨i132_1, hv132_1⟩, ⟨i132_2, hv132_2⟩⟩ := hs132
        refine Plan.alloc h125 rfl FPack.z25 (PIn.cons (ilist1 + 1) hr132 PIn.nil) fun b133 w133 hb133 h133 => ?_
        simp only [rngs, Nat.zero_add, Nat.reduceAdd, List.cons_append, List.nil_append] at h133
        refine Plan.storeP (ps := [(1, fun _ => .int .i64 ((list1.getD t121 ((0 : Int), ([] : List Byte), ([] : List Byte))).1)), (1, fun _ => .slice ((b132.1).1) (((list1.getD t121 ((0 : Int), ([] : List Byte), ([] : List Byte))).2.1).length) ((b132.1).2)), (1, fun _ => .slice ((b132.2).1) (((list1.getD t121 ((0 : Int), ([] : List Byte), ([] : List Byte))).2.2).length) ((b132.2).2))]) h133 rfl rfl rfl (.cons 0 rfl (.cons 1 rfl (.cons 2 rfl .nil))) ⟨fun _ _ => rfl, fun _ _ => rfl, fun _ _ => rfl, trivial⟩ FPack.sz25 (EffO.wait rfl) fun w134 h134 => ?_
        simp only [List.cons_append, List.nil_append, List.set_cons_zero, List.set_cons_succ] at h134
        refine Plan.nil ?_
        refine hK130 _ _ ?_; clear hK130
        refine W.seq_k fun K135 hK135 => ?_
        obtain ⟨out146, left147, hX148, hR0148⟩ := hR
        refine W.cutN (fun e w => ∃ y_out146 : List Int, ∃ y_left147 : Int, (out146 = y_out146 ∧ left147 = y_left147) ∧ ∃ n_out146 : Nat, ∃ aout146 : Option Addr, ∃ pout146 : Option Nat, ∃ cout146 : Nat, ∃ Fout146 : Nat → Value, EnvHas e [(5, .slice aout146 n_out146 cout146), (6, .int .i64 y_left147), (8, .pointer (some ⟨b133, 0, none⟩)), (14, .slice alist1 list1.length clist1), (15, VN list1.length), (16, VN t121)] ∧ St B w0 (⟨pout146, 0, cout146 * 1, Fout146, true⟩ :: ⟨some b133, 0, 1, fun _ => .int .i64 ((list1.getD t121 ((0 : Int), ([] : List Byte), ([] : List Byte))).1), true⟩ :: ⟨some b133, 1, 1, fun _ => .slice ((b132.1).1) (((list1.getD t121 ((0 : Int), ([] : List Byte), ([] : List Byte))).2.1).length) ((b132.1).2), true⟩ :: ⟨some b133, 2, 1, fun _ => .slice ((b132.2).1) (((list1.getD t121 ((0 : Int), ([] : List Byte), ([] : List Byte))).2.2).length) ((b132.2).2), true⟩ :: L) w ∧ LO D3 [] aout146 pout146 n_out146 cout146 Fout146 y_out146) ?_ ?_
        ·
          replace hR := hX148
          refine W.seq_k fun K149 hK149 => ?_
          refine W.regionT [(0, true), (1, false), (2, true), (3, true)] (by kernel_rfl) ?_
          refine Plan.loadA h134 rfl rfl (.cons 0 rfl (.cons 1 rfl (.cons 2 rfl .nil))) FPack.agg25 ?_
          obtain ⟨x_151, hr150, hR⟩ := hR
          refine Plan.call (vs := [AG [(1, fun _ => .int .i64 ((list1.getD t121 ((0 : Int), ([] : List Byte), ([] : List Byte))).1)), (1, fun _ => .slice ((b132.1).1) (((list1.getD t121 ((0 : Int), ([] : List Byte), ([] : List Byte))).2.1).length) ((b132.1).2)), (1, fun _ => .slice ((b132.2).1) (((list1.getD t121 ((0 : Int), ([] : List Byte), ([] : List Byte))).2.2).length) ((b132.2).2))]]) rfl FPack.call26 rfl (pack_Size_ok (hv132_1.app [_, _, _, _]) (hv132_2.app [_, _, _, _]) hr150 h134) ?_
          rintro _ w152 ⟨rfl, h152⟩
          refine ⟨_, rfl, .inr ⟨rfl, ?_⟩⟩
          refine Plan.move_int rfl rfl ?_
          refine Plan.cmpP (a := (((x_151 : Nat) : Int) : Int)) (b := (left120 : Int)) (p := left120 < ((x_151 : Nat) : Int)) rfl rfl rfl rfl icmp_gt ?_
          refine Plan.nil ?_
          refine hK149 _ _ ?_; clear hK149
          by_cases hc153 : left120 < ((x_151 : Nat) : Int)
          ·
            replace hR := ifT hR hc153
            refine W.condT (congrArg Value.bool (decide_eq_true hc153)) ?_
            refine W.seq_k fun K154 hK154 => ?_
            refine W.regionT [(0, true), (1, false), (2, false), (3, true)] (by kernel_rfl) ?_
            refine Plan.move_slice rfl rfl ?_
            refine Plan.buildLO (D := D3) (sz := 1) h152 [((), (0 : Int))] FPack.slu43 FPack.sz3 FPack.zv3 (by decide) (by decide) rfl rfl rfl rfl (fun _ _ => trivial) (EffO.keep PIn.nil) fun b156 w156 F156 hb156 ho156 h156 => ?_
            replace ho156 : LO D3 [] (some ⟨b156, 0, none⟩) (some b156) ([0] : List Int).length 1 F156 ([0] : List Int) := ho156.re (fun _ _ h => h)
            obtain ⟨hc158, hR⟩ := hR
            refine Plan.appendLO (D := D3) (X := out118) (Y := ([0] : List Int)) (sz := 1) h156 () (0 : Int) 4 hout118 rfl FPack.el43 rfl FPack.slu43 rfl rfl rfl rfl (LO.lvf D3_flat ho156 0 rfl) (fun _ _ h => h) hc158.1 hc158.2 (fun _ => EffO.keep PIn.nil) fun a157 pb157 cap157 F157 w157 ho157 h157 => ?_
            simp only [List.cons_append, List.nil_append, List.set_cons_zero, List.set_cons_succ] at h157
            replace ho157 : LO D3 [] a157 pb157 (out118 ++ ([0] : List Int)).length cap157 F157 (out118 ++ ([0] : List Int)) := ho157.re (fun _ _ h => h)
            refine Plan.assign_slice rfl rfl ?_
            refine Plan.nil ?_
            refine hK154 _ _ ?_; clear hK154
            refine W.regionT [(0, true)] (by kernel_rfl) ?_
            refine Plan.assign_int rfl rfl ?_
            refine Plan.nil ?_
            have h159 := St.pickT (C := [_, _, _, _, _]) h157 [4, 1, 2, 3] (by decide)
            simp only [pick, List.filterMap_cons, List.filterMap_nil, List.getElem?_cons_zero, List.getElem?_cons_succ, List.cons_append, List.nil_append] at h159
            exact ⟨(out118 ++ ([0] : List Int)), 1008, hR, (out118 ++ ([0] : List Int)).length, a157, pb157, cap157, F157, (EnvHas.cons rfl (EnvHas.cons rfl (EnvHas.cons rfl (EnvHas.cons rfl (EnvHas.cons rfl (EnvHas.cons rfl EnvHas.nil)))))), h159, ho157⟩
          ·
            replace hR := ifF hR hc153
            refine W.condF (congrArg Value.bool (decide_eq_false hc153)) ?_
            refine W.skip ?_
            have h160 := St.pickT (C := [_, _, _, _]) h152 [3, 0, 1, 2] (by decide)
            simp only [pick, List.filterMap_cons, List.filterMap_nil, List.getElem?_cons_zero, List.getElem?_cons_succ, List.cons_append, List.nil_append] at h160
            exact ⟨out118, left120, hR, out118.length, aout118, pout118, cout118, Fout118, (EnvHas.cons rfl (EnvHas.cons rfl (EnvHas.cons rfl (EnvHas.cons rfl (EnvHas.cons rfl (EnvHas.cons rfl EnvHas.nil)))))), h160, hout118⟩
        ·
          rintro ev161 wl161 ⟨y_out146, y_left147, ⟨hy161_0, hy161_1⟩, n_out146, aout146, pout146, cout146, Fout146, he161, h161, hout146⟩
          subst hy161_0
          subst hy161_1
          obtain rfl : List.length (α := Int) out146 = n_out146 := hout146.hl
          obtain ⟨ev161, rfl⟩ := he161.open
          replace hR := hR0148
          refine hK135 _ _ ?_; clear hK135
          refine W.seq_k fun K162 hK162 => ?_
          refine W.regionT [(0, true), (1, true), (2, true), (3, true), (4, true), (5, true), (6, true), (7, true), (8, false)] (by kernel_rfl) ?_
          refine Plan.move_slice rfl rfl ?_
          refine Plan.move_slice rfl rfl ?_
          refine Plan.len FPack.isl43 rfl rfl ?_
          obtain ⟨hc163, hR⟩ := hR
          refine Plan.subI (a := ((out146.length : Nat) : Int)) (b := 1) rfl rfl rfl (by omega) ?_
          obtain ⟨hc164, hR⟩ := hR
          refine Plan.idxLVS (D := D3) (j := (((out146.length : Nat) : Int) - 1).toNat) h161 (LO.lvf D3_flat hout146 0 rfl) FPack.sl43 rfl rfl (congrArg (Value.int .i64) (Int.toNat_of_nonneg hc164.1).symm) (toNat_lt hc164.1 hc164.2) ?_
          refine Plan.loadLV1 (D := D3) (X := out146) (j := (((out146.length : Nat) : Int) - 1).toNat) h161 (0 : Int) (fun _ x => .int .i64 x) (LO.lvf D3_flat hout146 0 rfl) rfl rfl (toNat_lt hc164.1 hc164.2) rfl (fun _ _ => rfl) FPack.sc3 fun b165 r165 hs165 hr165 => ?_
          obtain ⟨hc166, hR⟩ := hR
          refine Plan.addI (a := (out146.getD ((((out146.length : Nat) : Int) - 1).toNat) (0 : Int))) (b := 1) rfl rfl rfl (by omega) ?_
          obtain ⟨hc167, hR⟩ := hR
          refine Plan.idxLVS (D := D3) (j := (((out146.length : Nat) : Int) - 1).toNat) h161 (LO.lvf D3_flat hout146 0 rfl) FPack.sl43 rfl rfl (congrArg (Value.int .i64) (Int.toNat_of_nonneg hc167.1).symm) (toNat_lt hc167.1 hc167.2) ?_
          refine Plan.storeLO1 (D := D3) (j := (((out146.length : Nat) : Int) - 1).toNat) h161 () ((out146.getD ((((out146.length : Nat) : Int) - 1).toNat) (0 : Int)) + 1) (.int .i64 ((out146.getD ((((out146.length : Nat) : Int) - 1).toNat) (0 : Int)) + 1)) 0 hout146 trivial rfl rfl rfl rfl rfl (toNat_lt hc167.1 hc167.2) rfl FPack.sz3 rfl fun w168 F168 ho168 h168 => ?_
          simp only [List.cons_append, List.nil_append, List.set_cons_zero, List.set_cons_succ] at h168
          have e168 : (out146.set ((((out146.length : Nat) : Int) - 1).toNat) ((out146.getD ((((out146.length : Nat) : Int) - 1).toNat) (0 : Int)) + 1)).length = out146.length := List.length_set
          refine Plan.nil ?_
          refine hK162 _ _ ?_; clear hK162
          refine W.regionT [(0, true), (1, true), (2, false), (3, true), (4, true)] (by kernel_rfl) ?_
          refine Plan.move_int rfl rfl ?_
          refine Plan.loadA h168 rfl rfl (.cons 1 rfl (.cons 2 rfl (.cons 3 rfl .nil))) FPack.agg25 ?_
          obtain ⟨x_170, hr169, hR⟩ := hR
          refine Plan.call (vs := [AG [(1, fun _ => .int .i64 ((list1.getD t121 ((0 : Int), ([] : List Byte), ([] : List Byte))).1)), (1, fun _ => .slice ((b132.1).1) (((list1.getD t121 ((0 : Int), ([] : List Byte), ([] : List Byte))).2.1).length) ((b132.1).2)), (1, fun _ => .slice ((b132.2).1) (((list1.getD t121 ((0 : Int), ([] : List Byte), ([] : List Byte))).2.2).length) ((b132.2).2))]]) rfl FPack.call26 rfl (pack_Size_ok (hv132_1.app [_, _, _, _]) (hv132_2.app [_, _, _, _]) hr169 h168) ?_
          rintro _ w171 ⟨rfl, h171⟩
          refine ⟨_, rfl, .inr ⟨rfl, ?_⟩⟩
          obtain ⟨hc172, hR⟩ := hR
          refine Plan.subI (a := left147) (b := ((x_170 : Nat) : Int)) rfl rfl rfl (by omega) ?_
          refine Plan.assign_int rfl rfl ?_
          refine Plan.nil ?_
          refine blockR_norm ?_
          refine hK129 _ _ ?_; clear hK129
          refine W.regionT [(0, true), (1, true)] (by kernel_rfl) ?_
          obtain ⟨hc173, hR⟩ := hR
          refine Plan.addN (a := t121) (b := 1) rfl rfl rfl (by omega) ?_
          refine Plan.move_int rfl rfl ?_
          refine Plan.nil ?_
          have h174 := St.pickT (C := [_, _, _, _]) h171 [0] (by decide)
          simp only [pick, List.filterMap_cons, List.filterMap_nil, List.getElem?_cons_zero, List.getElem?_cons_succ, List.cons_append, List.nil_append] at h174
          exact iterR_norm ⟨_, hR, out146.length, aout146, pout146, cout146, F168, (EnvHas.cons rfl (EnvHas.cons rfl (EnvHas.cons rfl (EnvHas.cons rfl (EnvHas.cons rfl EnvHas.nil))))), h174, (show LO D3 [] _ _ out146.length _ _ _ from ho168)⟩
      ·
        replace hR := ifF hR hc128
        refine W.condF (congrArg Value.bool (decide_eq_false hc128)) ?_
        refine W.exit (thenR_exit (iterR_exit (blockR_here ?_)))
        exact ⟨out118, (hx123 _ hR).symm, out118.length, aout118, pout118, cout118, Fout118, (EnvHas.cons rfl EnvHas.nil), h125, hout118⟩
    ·
      rintro ev175 wl175 ⟨y_out122, hy175, n_out122, aout122, pout122, cout122, Fout122, he175, h175, hout122⟩
      obtain ⟨ev175, rfl⟩ := he175.open
      subst hy175
      replace hR := hR0123
      obtain rfl : List.length (α := Int) out122 = n_out122 := hout122.hl
      refine hK14 _ _ ?_; clear hK14
      refine W.seq_k fun K176 hK176 => ?_
      refine W.regionT [(0, true), (1, true), (2, true)] (by kernel_rfl) ?_
      refine Plan.move_slice rfl rfl ?_
      refine Plan.assign_slice rfl rfl ?_
      refine Plan.assign_int rfl rfl ?_
      refine Plan.nil ?_
      refine hK176 _ _ ?_; clear hK176
      refine W.ret (finR_ret ?_)
      subst r
      refine RetOk.mk (.tmp_slice rfl (.tmp_int rfl .nil)) ?_
      exact ⟨aout122, pout122, out122.length, cout122, Fout122, rfl, h175, hout122⟩


set_option maxRecDepth 8000 in
set_option maxHeartbeats 1000000 in
theorem pack_Encode_ok {B : Nat} {w0 w : World} {L : List Rg} {list1 : List (Int × (List Byte) × (List Byte))} {alist1 : Option Addr} {nlist1 clist1 ilist1 : Nat} (hlist1 : LV (D25.at L) L ilist1 alist1 nlist1 clist1 list1) {r : ((List Byte) × Nat)} (hR : pack_Encode list1 r) (HST : St B w0 (L) w) :
    Calls Try.prog 22 #[.slice alist1 nlist1 clist1] w fun e w' => ∃ ay0 : Option Addr, ∃ py0 : Option Nat, ∃ ny0 : Nat, ∃ cy0 : Nat, ∃ Fy0 : Nat → Byte, e = .returned (.tuple #[.slice ay0 ny0 cy0, VN r.2]) ∧ St B w0 (⟨py0, 0, cy0, fun q => VU .u8 (Fy0 q), true⟩ :: L) w' ∧ Ow ay0 py0 ny0 cy0 Fy0 r.1 := by
  refine W.enter 59 Try.func22 rfl rfl rfl ?_
  unfold pack_Encode at hR
  have elist1 := hlist1.hl; subst elist1
  refine W.seq_k fun K2 hK2 => ?_
  refine W.regionT [(0, true), (1, true)] (by kernel_rfl) ?_
  refine Plan.assign_slice rfl rfl ?_
  refine Plan.assign_int rfl rfl ?_
  refine Plan.nil ?_
  refine hK2 _ _ ?_; clear hK2
  refine W.seq_k fun K3 hK3 => ?_
  refine W.seq_k fun K4 hK4 => ?_
  refine W.regionT [(0, true), (1, false), (2, true)] (by kernel_rfl) ?_
  refine Plan.move_slice rfl rfl ?_
  obtain ⟨x_6, hr5, hR⟩ := hR
  refine Plan.call (vs := [.slice alist1 list1.length clist1]) rfl FPack.call60 rfl (pack_sorted_ok (by exact (LV.grow D25_lifts (fun r hr => List.mem_append_right [] ((fun _ h => h) r hr)) hlist1)) hr5 HST) ?_
  rintro _ w7 ⟨rfl, h7⟩
  refine ⟨_, rfl, .inl ⟨PIn.keep PIn.nil h7, ?_⟩⟩
  refine Plan.assign_int rfl rfl ?_
  refine Plan.nil ?_
  refine hK4 _ _ ?_; clear hK4
  refine W.seq_k fun K8 hK8 => ?_
  refine W.regionT [(0, true), (1, true)] (by kernel_rfl) ?_
  refine Plan.move_int rfl rfl ?_
  refine Plan.cmpP (a := (((x_6 : Nat) : Int) : Int)) (b := (0 : Int)) (p := x_6 ≠ 0) rfl rfl rfl rfl icmp_neN ?_
  refine Plan.nil ?_
  refine hK8 _ _ ?_; clear hK8
  by_cases hc9 : x_6 ≠ 0
  ·
    replace hR := ifT hR hc9
    refine W.condT (congrArg Value.bool (decide_eq_true hc9)) ?_
    refine W.seq_k fun K10 hK10 => ?_
    refine W.regionT [(0, true), (1, true), (2, true)] (by kernel_rfl) ?_
    refine Plan.move_int rfl rfl ?_
    refine Plan.assign_slice rfl rfl ?_
    refine Plan.assign_int rfl rfl ?_
    refine Plan.nil ?_
    refine hK10 _ _ ?_; clear hK10
    refine W.ret (thenR_ret (finR_ret ?_))
    have h11 := h7.nilR
    subst r
    refine RetOk.mk (.tmp_slice rfl (.tmp_int rfl .nil)) ?_
    exact ⟨none, none, 0, 0, (fun _ => 0#8), rfl, h11, Ow.nil⟩
  ·
    replace hR := ifF hR hc9
    refine W.condF (congrArg Value.bool (decide_eq_false hc9)) ?_
    refine W.skip ?_
    refine hK3 _ _ ?_; clear hK3
    refine W.seq_k fun K12 hK12 => ?_
    refine W.regionT [(0, false), (1, true)] (by kernel_rfl) ?_
    refine Plan.makeO (len := 0) (c := 1008) h7 FPack.el23 rfl rfl rfl (by omega) (by omega) (fun _ => EffO.keep PIn.nil) fun b13 w13 hb13 ho13 h13 => ?_
    have hz13 : OwZ (some ⟨b13, 0, none⟩) (some b13) (List.replicate 0 0#8).length 1008 (fun _ => 0#8) (List.replicate 0 0#8) := ⟨ho13, fun _ _ _ => rfl⟩
    have hrm13 : 1008 ≤ 1008 := Nat.le_refl _
    refine Plan.assign_slice rfl rfl ?_
    refine Plan.nil ?_
    refine hK12 _ _ ?_; clear hK12
    refine W.seq_k fun K14 hK14 => ?_
    refine W.seq_k fun K15 hK15 => ?_
    refine W.regionT [(0, true), (1, true), (2, true)] (by kernel_rfl) ?_
    refine Plan.move_slice rfl rfl ?_
    refine Plan.len FPack.isl22 rfl rfl ?_
    refine Plan.move_int rfl rfl ?_
    refine Plan.nil ?_
    refine hK15 _ _ ?_; clear hK15
    obtain ⟨x85, hI85, hR085⟩ := hR
    refine W.cutN (fun e w => ∃ y_out84 : List Byte, x85 = some y_out84 ∧ ∃ aout84 : Option Addr, ∃ pout84 : Option Nat, ∃ cout84 : Nat, ∃ Fout84 : Nat → Byte, EnvHas e [(5, .slice aout84 y_out84.length cout84)] ∧ St B w0 (⟨pout84, 0, cout84, fun q => VU .u8 (Fout84 q), true⟩ :: L) w ∧ OwZ aout84 pout84 y_out84.length cout84 Fout84 y_out84 ∧ 1008 ≤ cout84) ?_ ?_
    ·
      refine W.block ?_
      refine W.iter hI85 (fun (s85 : ((List Byte) × Nat)) e w => ∃ aout82 : Option Addr, ∃ pout82 : Option Nat, ∃ cout82 : Nat, ∃ Fout82 : Nat → Byte, EnvHas e [(5, .slice aout82 s85.1.length cout82), (14, .slice alist1 list1.length clist1), (15, VN list1.length), (16, VN s85.2)] ∧ St B w0 (⟨pout82, 0, cout82, fun q => VU .u8 (Fout82 q), true⟩ :: L) w ∧ OwZ aout82 pout82 s85.1.length cout82 Fout82 s85.1 ∧ 1008 ≤ cout82) ⟨some ⟨b13, 0, none⟩, some b13, 1008, (fun _ => 0#8), (EnvHas.cons rfl (EnvHas.cons rfl (EnvHas.cons rfl (EnvHas.cons rfl EnvHas.nil)))), h13, hz13, hrm13⟩ ?_
      rintro ⟨out82, t83⟩ o85 hR hx85 ev86 wl86 ⟨aout82, pout82, cout82, Fout82, he86, h86, hout82, hmout82⟩
      obtain ⟨ev86, rfl⟩ := he86.open
      unfold pack_Encode_l0 at hR
      refine W.seq_k fun K87 hK87 => ?_
      refine W.regionT [(0, true)] (by kernel_rfl) ?_
      refine Plan.cmpP (a := (((t83 : Nat) : Int) : Int)) (b := (((list1.length : Nat) : Int) : Int)) (p := t83 < list1.length) rfl rfl rfl rfl icmp_ltN ?_
      refine Plan.nil ?_
      refine hK87 _ _ ?_; clear hK87
      refine W.seq_k fun K88 hK88 => ?_
      by_cases hc89 : t83 < list1.length
      ·
        replace hR := ifT hR hc89
        refine W.condT (congrArg Value.bool (decide_eq_true hc89)) ?_
        refine W.skip ?_
        refine hK88 _ _ ?_; clear hK88
        refine W.seq_k fun K90 hK90 => ?_
        refine W.block ?_
        refine W.seq_k fun K91 hK91 => ?_
        refine W.regionT [(0, true), (1, true), (2, false), (3, false)] (by kernel_rfl) ?_
        obtain ⟨hc92, hR⟩ := hR
        refine Plan.idxLVS (D := (D25.at L)) (j := t83) h86 (hlist1.app [_]) FPack.sl22 rfl rfl rfl hc92 ?_
        refine Plan.loadLV (D := (D25.at L)) (X := list1) (j := t83) (sz := 3) h86 ((0 : Int), ([] : List Byte), ([] : List Byte)) (hlist1.app [_]) rfl rfl hc92 rfl FPack.agg25 fun b93 r93 hs93 hr93 => ?_
        obtain ⟨⟨i93_1, hv93_1⟩, ⟨i93_2, hv93_2⟩⟩ := hs93
        refine Plan.alloc h86 rfl FPack.z25 (PIn.cons (ilist1 + 1) hr93 PIn.nil) fun b94 w94 hb94 h94 => ?_
        simp only [rngs, Nat.zero_add, Nat.reduceAdd, List.cons_append, List.nil_append] at h94
        refine Plan.storeP (ps := [(1, fun _ => .int .i64 ((list1.getD t83 ((0 : Int), ([] : List Byte), ([] : List Byte))).1)), (1, fun _ => .slice ((b93.1).1) (((list1.getD t83 ((0 : Int), ([] : List Byte), ([] : List Byte))).2.1).length) ((b93.1).2)), (1, fun _ => .slice ((b93.2).1) (((list1.getD t83 ((0 : Int), ([] : List Byte), ([] : List Byte))).2.2).length) ((b93.2).2))]) h94 rfl rfl rfl (.cons 0 rfl (.cons 1 rfl (.cons 2 rfl .nil))) ⟨fun _ _ => rfl, fun _ _ => rfl, fun _ _ => rfl, trivial⟩ FPack.sz25 (EffO.wait rfl) fun w95 h95 => ?_
        simp only [List.cons_append, List.nil_append, List.set_cons_zero, List.set_cons_succ] at h95
        refine Plan.nil ?_
        refine hK91 _ _ ?_; clear hK91
        refine W.seq_k fun K96 hK96 => ?_
        refine W.seq_k fun K97 hK97 => ?_
        refine W.regionT [(0, true), (1, true), (2, true), (3, false), (4, true), (5, true)] (by kernel_rfl) ?_
        refine Plan.move_slice rfl rfl ?_
        refine Plan.len FPack.isl23 rfl rfl ?_
        refine Plan.loadA h95 rfl rfl (.cons 0 rfl (.cons 1 rfl (.cons 2 rfl .nil))) FPack.agg25 ?_
        obtain ⟨x_99, hr98, hR⟩ := hR
        refine Plan.call (vs := [AG [(1, fun _ => .int .i64 ((list1.getD t83 ((0 : Int), ([] : List Byte), ([] : List Byte))).1)), (1, fun _ => .slice ((b93.1).1) (((list1.getD t83 ((0 : Int), ([] : List Byte), ([] : List Byte))).2.1).length) ((b93.1).2)), (1, fun _ => .slice ((b93.2).1) (((list1.getD t83 ((0 : Int), ([] : List Byte), ([] : List Byte))).2.2).length) ((b93.2).2))]]) rfl FPack.call26 rfl (pack_Size_ok (hv93_1.app [_, _, _, _]) (hv93_2.app [_, _, _, _]) hr98 h95) ?_
        rintro _ w100 ⟨rfl, h100⟩
        refine ⟨_, rfl, .inr ⟨rfl, ?_⟩⟩
        obtain ⟨hc101, hR⟩ := hR
        refine Plan.addN (a := out82.length) (b := x_99) rfl rfl rfl (by omega) ?_
        refine Plan.cmpP (a := ((((out82.length + x_99) : Nat) : Int) : Int)) (b := (1008 : Int)) (p := 1008 < (out82.length + x_99)) rfl rfl rfl rfl icmp_gtN ?_
        refine Plan.nil ?_
        refine hK97 _ _ ?_; clear hK97
        by_cases hc102 : 1008 < (out82.length + x_99)
        ·
          replace hR := ifT hR hc102
          refine W.condT (congrArg Value.bool (decide_eq_true hc102)) ?_
          refine W.seq_k fun K103 hK103 => ?_
          refine W.regionT [(0, true), (1, true)] (by kernel_rfl) ?_
          refine Plan.assign_slice rfl rfl ?_
          refine Plan.assign_int rfl rfl ?_
          refine Plan.nil ?_
          refine hK103 _ _ ?_; clear hK103
          refine W.ret (thenR_ret (blockR_ret (thenR_ret (iterR_ret (blockR_ret (thenR_ret (thenR_ret (finR_ret ?_))))))))
          have h104 := h100.nilR
          have h105 := St.pickT (C := [_, _, _, _, _]) h104 [0] (by decide)
          simp only [pick, List.filterMap_cons, List.filterMap_nil, List.getElem?_cons_zero, List.getElem?_cons_succ, List.cons_append, List.nil_append] at h105
          replace hR := hR.2
          subst r
          refine RetOk.mk (.tmp_slice rfl (.tmp_int rfl .nil)) ?_
          exact ⟨none, none, 0, 0, (fun _ => 0#8), rfl, h105, Ow.nil⟩
        ·
          replace hR := ifF hR hc102
          refine W.condF (congrArg Value.bool (decide_eq_false hc102)) ?_
          refine W.skip ?_
          refine hK96 _ _ ?_; clear hK96
          refine W.seq_k fun K106 hK106 => ?_
          refine W.regionT [(0, true), (1, true), (2, true), (3, true), (4, true), (5, true), (6, true), (7, true), (8, false), (9, false), (10, true)] (by kernel_rfl) ?_
          refine Plan.move_slice rfl rfl ?_
          refine Plan.fieldAddr0 FPack.fld25_0 rfl rfl ?_
          refine Plan.load0 h100 0 rfl rfl rfl (by omega) FPack.sc3 ?_
          refine Plan.convIU .u8 (a := (list1.getD t83 ((0 : Int), ([] : List Byte), ([] : List Byte))).1) FPack.u5 FPack.some3 rfl rfl ?_
          refine Plan.fieldAddr 1 FPack.fld25_1 rfl rfl ?_
          refine Plan.load0 h100 1 rfl rfl rfl (by omega) FPack.sc23 ?_
          refine Plan.len FPack.isl23 rfl rfl ?_
          refine Plan.convNU .u8 (a := ((list1.getD t83 ((0 : Int), ([] : List Byte), ([] : List Byte))).2.1).length) FPack.u5 FPack.some3 rfl rfl ?_
          refine Plan.buildSlice h100 (ps := [(2, fun q => VU .u8 (lit ([(BitVec.ofInt 8 ((list1.getD t83 ((0 : Int), ([] : List Byte), ([] : List Byte))).1)), (BitVec.ofNat 8 (((list1.getD t83 ((0 : Int), ([] : List Byte), ([] : List Byte))).2.1).length))] : List Byte) q))]) FPack.slu23 FPack.sz5 FPack.zv5 (by decide) (by decide) rfl rfl rfl (EffO.keep (PIn.cons 1 rfl (PIn.cons 0 rfl PIn.nil))) fun b107 w107 hb107 h107 => ?_
          simp only [rngs, List.cons_append, List.nil_append] at h107
          have ho107 : Ow (some ⟨b107, 0, none⟩) (some b107) ([(BitVec.ofInt 8 ((list1.getD t83 ((0 : Int), ([] : List Byte), ([] : List Byte))).1)), (BitVec.ofNat 8 (((list1.getD t83 ((0 : Int), ([] : List Byte), ([] : List Byte))).2.1).length))] : List Byte).length 2 (lit ([(BitVec.ofInt 8 ((list1.getD t83 ((0 : Int), ([] : List Byte), ([] : List Byte))).1)), (BitVec.ofNat 8 (((list1.getD t83 ((0 : Int), ([] : List Byte), ([] : List Byte))).2.1).length))] : List Byte)) ([(BitVec.ofInt 8 ((list1.getD t83 ((0 : Int), ([] : List Byte), ([] : List Byte))).1)), (BitVec.ofNat 8 (((list1.getD t83 ((0 : Int), ([] : List Byte), ([] : List Byte))).2.1).length))] : List Byte) := ⟨.inr ⟨b107, rfl, rfl⟩, Nat.le_refl _, rfl, fun q _ => rfl⟩
          obtain ⟨hc109, hR⟩ := hR
          refine Plan.appendOZ (X := out82) (Y := ([(BitVec.ofInt 8 ((list1.getD t83 ((0 : Int), ([] : List Byte), ([] : List Byte))).1)), (BitVec.ofNat 8 (((list1.getD t83 ((0 : Int), ([] : List Byte), ([] : List Byte))).2.1).length))] : List Byte)) h107 4 hout82 FPack.el23 FPack.sl23 rfl rfl rfl rfl (ho107.bx 0 rfl) hc109 (fun _ => EffO.keep (PIn.cons 2 rfl (PIn.cons 1 rfl PIn.nil))) fun a108 pb108 cap108 F108 w108 hz108 hcc108 h108 => ?_
          simp only [List.cons_append, List.nil_append, List.set_cons_zero, List.set_cons_succ] at h108
          have hrm108 := Nat.le_trans hmout82 hcc108
          refine Plan.assign_slice rfl rfl ?_
          refine Plan.nil ?_
          refine hK106 _ _ ?_; clear hK106
          refine W.seq_k fun K110 hK110 => ?_
          refine W.regionT [(0, true), (1, true), (2, true), (3, false), (4, true)] (by kernel_rfl) ?_
          refine Plan.move_slice rfl rfl ?_
          refine Plan.fieldAddr 1 FPack.fld25_1 rfl rfl ?_
          refine Plan.load0 h108 2 rfl rfl rfl (by omega) FPack.sc23 ?_
          obtain ⟨hc112, hR⟩ := hR
          refine Plan.appendOZ (X := (out82 ++ ([(BitVec.ofInt 8 ((list1.getD t83 ((0 : Int), ([] : List Byte), ([] : List Byte))).1)), (BitVec.ofNat 8 (((list1.getD t83 ((0 : Int), ([] : List Byte), ([] : List Byte))).2.1).length))] : List Byte))) (Y := ((list1.getD t83 ((0 : Int), ([] : List Byte), ([] : List Byte))).2.1)) h108 4 hz108 FPack.el23 FPack.sl23 rfl rfl rfl rfl (hv93_1.app [_, _, _, _, _]) hc112 (fun _ => EffO.wait rfl) fun a111 pb111 cap111 F111 w111 hz111 hcc111 h111 => ?_
          simp only [List.cons_append, List.nil_append, List.set_cons_zero, List.set_cons_succ] at h111
          have hrm111 := Nat.le_trans hrm108 hcc111
          refine Plan.assign_slice rfl rfl ?_
          refine Plan.nil ?_
          refine hK110 _ _ ?_; clear hK110
          refine W.seq_k fun K113 hK113 => ?_
          refine W.regionT [(0, true), (1, true), (2, true), (3, true), (4, true), (5, true), (6, true), (7, true), (8, true), (9, true), (10, false), (11, false), (12, true)] (by kernel_rfl) ?_
          refine Plan.move_slice rfl rfl ?_
          refine Plan.fieldAddr 2 FPack.fld25_2 rfl rfl ?_
          refine Plan.load0 h111 3 rfl rfl rfl (by omega) FPack.sc23 ?_
          refine Plan.len FPack.isl23 rfl rfl ?_
          obtain ⟨hc114, hR⟩ := hR
          refine Plan.shrN (a := ((list1.getD t83 ((0 : Int), ([] : List Byte), ([] : List Byte))).2.2).length) (c := 8) rfl rfl rfl (by omega) ?_
          refine Plan.convNU .u8 (a := ((((list1.getD t83 ((0 : Int), ([] : List Byte), ([] : List Byte))).2.2).length) / 2 ^ 8)) FPack.u5 FPack.some3 rfl rfl ?_
          refine Plan.fieldAddr 2 FPack.fld25_2 rfl rfl ?_
          refine Plan.load0 h111 3 rfl rfl rfl (by omega) FPack.sc23 ?_
          refine Plan.len FPack.isl23 rfl rfl ?_
          refine Plan.convNU .u8 (a := ((list1.getD t83 ((0 : Int), ([] : List Byte), ([] : List Byte))).2.2).length) FPack.u5 FPack.some3 rfl rfl ?_
          refine Plan.buildSlice h111 (ps := [(2, fun q => VU .u8 (lit ([(BitVec.ofNat 8 ((((list1.getD t83 ((0 : Int), ([] : List Byte), ([] : List Byte))).2.2).length) / 2 ^ 8)), (BitVec.ofNat 8 (((list1.getD t83 ((0 : Int), ([] : List Byte), ([] : List Byte))).2.2).length))] : List Byte) q))]) FPack.slu23 FPack.sz5 FPack.zv5 (by decide) (by decide) rfl rfl rfl (EffO.keep (PIn.cons 3 rfl (PIn.cons 3 rfl PIn.nil))) fun b115 w115 hb115 h115 => ?_
          simp only [rngs, List.cons_append, List.nil_append] at h115
          have ho115 : Ow (some ⟨b115, 0, none⟩) (some b115) ([(BitVec.ofNat 8 ((((list1.getD t83 ((0 : Int), ([] : List Byte), ([] : List Byte))).2.2).length) / 2 ^ 8)), (BitVec.ofNat 8 (((list1.getD t83 ((0 : Int), ([] : List Byte), ([] : List Byte))).2.2).length))] : List Byte).length 2 (lit ([(BitVec.ofNat 8 ((((list1.getD t83 ((0 : Int), ([] : List Byte), ([] : List Byte))).2.2).length) / 2 ^ 8)), (BitVec.ofNat 8 (((list1.getD t83 ((0 : Int), ([] : List Byte), ([] : List Byte))).2.2).length))] : List Byte)) ([(BitVec.ofNat 8 ((((list1.getD t83 ((0 : Int), ([] : List Byte), ([] : List Byte))).2.2).length) / 2 ^ 8)), (BitVec.ofNat 8 (((list1.getD t83 ((0 : Int), ([] : List Byte), ([] : List Byte))).2.2).length))] : List Byte) := ⟨.inr ⟨b115, rfl, rfl⟩, Nat.le_refl _, rfl, fun q _ => rfl⟩
          obtain ⟨hc117, hR⟩ := hR
          refine Plan.appendOZ (X := ((out82 ++ ([(BitVec.ofInt 8 ((list1.getD t83 ((0 : Int), ([] : List Byte), ([] : List Byte))).1)), (BitVec.ofNat 8 (((list1.getD t83 ((0 : Int), ([] : List Byte), ([] : List Byte))).2.1).length))] : List Byte)) ++ ((list1.getD t83 ((0 : Int), ([] : List Byte), ([] : List Byte))).2.1))) (Y := ([(BitVec.ofNat 8 ((((list1.getD t83 ((0 : Int), ([] : List Byte), ([] : List Byte))).2.2).length) / 2 ^ 8)), (BitVec.ofNat 8 (((list1.getD t83 ((0 : Int), ([] : List Byte), ([] : List Byte))).2.2).length))] : List Byte)) h115 5 hz111 FPack.el23 FPack.sl23 rfl rfl rfl rfl (ho115.bx 0 rfl) hc117 (fun _ => EffO.keep (PIn.cons 4 rfl (PIn.cons 4 rfl PIn.nil))) fun a116 pb116 cap116 F116 w116 hz116 hcc116 h116 => ?_
          simp only [List.cons_append, List.nil_append, List.set_cons_zero, List.set_cons_succ] at h116
          have hrm116 := Nat.le_trans hrm111 hcc116
          refine Plan.assign_slice rfl rfl ?_
          refine Plan.nil ?_
          refine hK113 _ _ ?_; clear hK113
          refine W.regionT [(0, true), (1, true), (2, true), (3, false), (4, true)] (by kernel_rfl) ?_
          refine Plan.move_slice rfl rfl ?_
          refine Plan.fieldAddr 2 FPack.fld25_2 rfl rfl ?_
          refine Plan.load0 h116 4 rfl rfl rfl (by omega) FPack.sc23 ?_
          obtain ⟨hc119, hR⟩ := hR
          refine Plan.appendOZ (X := (((out82 ++ ([(BitVec.ofInt 8 ((list1.getD t83 ((0 : Int), ([] : List Byte), ([] : List Byte))).1)), (BitVec.ofNat 8 (((list1.getD t83 ((0 : Int), ([] : List Byte), ([] : List Byte))).2.1).length))] : List Byte)) ++ ((list1.getD t83 ((0 : Int), ([] : List Byte), ([] : List Byte))).2.1)) ++ ([(BitVec.ofNat 8 ((((list1.getD t83 ((0 : Int), ([] : List Byte), ([] : List Byte))).2.2).length) / 2 ^ 8)), (BitVec.ofNat 8 (((list1.getD t83 ((0 : Int), ([] : List Byte), ([] : List Byte))).2.2).length))] : List Byte))) (Y := ((list1.getD t83 ((0 : Int), ([] : List Byte), ([] : List Byte))).2.2)) h116 5 hz116 FPack.el23 FPack.sl23 rfl rfl rfl rfl (hv93_2.app [_, _, _, _, _, _]) hc119 (fun _ => EffO.wait rfl) fun a118 pb118 cap118 F118 w118 hz118 hcc118 h118 => ?_
          simp only [List.cons_append, List.nil_append, List.set_cons_zero, List.set_cons_succ] at h118
          have hrm118 := Nat.le_trans hrm116 hcc118
          refine Plan.assign_slice rfl rfl ?_
          refine Plan.nil ?_
          refine blockR_norm ?_
          refine hK90 _ _ ?_; clear hK90
          refine W.regionT [(0, true), (1, true)] (by kernel_rfl) ?_
          obtain ⟨hc120, hR⟩ := hR
          refine Plan.addN (a := t83) (b := 1) rfl rfl rfl (by omega) ?_
          refine Plan.move_int rfl rfl ?_
          refine Plan.nil ?_
          have h121 := St.pickT (C := [_, _, _, _, _, _]) h118 [5] (by decide)
          simp only [pick, List.filterMap_cons, List.filterMap_nil, List.getElem?_cons_zero, List.getElem?_cons_succ, List.cons_append, List.nil_append] at h121
          exact iterR_norm ⟨_, hR, a118, pb118, cap118, F118, (EnvHas.cons rfl (EnvHas.cons rfl (EnvHas.cons rfl (EnvHas.cons rfl EnvHas.nil)))), h121, hz118, hrm118⟩
      ·
        replace hR := ifF hR hc89
        refine W.condF (congrArg Value.bool (decide_eq_false hc89)) ?_
        refine W.exit (thenR_exit (iterR_exit (blockR_here ?_)))
        exact ⟨out82, (hx85 _ hR).symm, aout82, pout82, cout82, Fout82, (EnvHas.cons rfl EnvHas.nil), h86, hout82, hmout82⟩
    ·
      rintro ev122 wl122 ⟨y_out84, hy122, aout84, pout84, cout84, Fout84, he122, h122, hout84, hmout84⟩
      obtain ⟨ev122, rfl⟩ := he122.open
      replace hR := hR085 y_out84 hy122
      obtain ⟨out84, e_out84⟩ : ∃ z, z = y_out84 := ⟨_, rfl⟩; subst e_out84
      refine hK14 _ _ ?_; clear hK14
      refine W.seq_k fun K123 hK123 => ?_
      refine W.regionT [(0, true), (1, true), (2, true), (3, true)] (by kernel_rfl) ?_
      refine Plan.move_slice rfl rfl ?_
      obtain ⟨hc125, hR⟩ := hR
      refine Plan.slZ (hi := 1008) hout84 FPack.sl23 rfl rfl rfl ⟨_, rfl⟩ ⟨hc125, hmout84⟩ fun ho124 => ?_
      refine Plan.assign_slice rfl rfl ?_
      refine Plan.assign_int rfl rfl ?_
      refine Plan.nil ?_
      refine hK123 _ _ ?_; clear hK123
      refine W.ret (finR_ret ?_)
      subst r
      refine RetOk.mk (.tmp_slice rfl (.tmp_int rfl .nil)) ?_
      exact ⟨aout84, pout84, (out84 ++ List.replicate (1008 - out84.length) 0#8).length, cout84, Fout84, rfl, h122, ho124⟩


set_option maxRecDepth 8000 in
set_option maxHeartbeats 1000000 in
theorem pack_first_ok {B : Nat} {w0 w : World} {L : List Rg} {b1 : List Byte} {ab1 : Option Addr} {nb1 cb1 ib1 : Nat} (hb1 : Bx L ib1 ab1 nb1 cb1 b1) {r : (Int × (List Byte) × (List Byte) × Nat)} (hR : pack_first b1 r) (HST : St B w0 (L) w) :
    Calls Try.prog 64 #[.slice ab1 nb1 cb1] w fun e w' => ∃ C : List Rg, ∃ iy0_1 : Nat, ∃ ay0_1 : Option Addr, ∃ cy0_1 : Nat, ∃ iy0_2 : Nat, ∃ ay0_2 : Option Addr, ∃ cy0_2 : Nat, e = .returned (.tuple #[AG [(1, fun _ => .int .i64 r.1), (1, fun _ => .slice ay0_1 r.2.1.length cy0_1), (1, fun _ => .slice ay0_2 r.2.2.1.length cy0_2)], VN r.2.2.2]) ∧ St B w0 ((C ++ L)) w' ∧ Bx C iy0_1 ay0_1 r.2.1.length cy0_1 r.2.1 ∧ Bx C iy0_2 ay0_2 r.2.2.1.length cy0_2 r.2.2.1 := by
  refine W.enter 63 Try.func64 rfl rfl rfl ?_
  unfold pack_first at hR
  obtain ⟨LP, hLPn⟩ : ∃ X, X = ([] : List Rg) := ⟨_, rfl⟩
  have hLP : ∀ r ∈ LP, r ∈ L := by rw [hLPn]; exact fun r hr => nomatch hr
  have hFr : Fr2 L [] L LP := by rw [hLPn]; exact Fr2.refl _ _
  have eb1 := hb1.hl; subst eb1
  refine W.seq_k fun K2 hK2 => ?_
  refine W.regionT [(0, false), (1, true)] (by kernel_rfl) ?_
  refine Plan.alloc HST rfl FPack.z25 PIn.nil fun b3 w3 hb3 h3 => ?_
  simp only [rngs, Nat.zero_add, Nat.reduceAdd, List.cons_append, List.nil_append] at h3
  refine Plan.assign_int rfl rfl ?_
  refine Plan.nil ?_
  refine hK2 _ _ ?_; clear hK2
  refine W.seq_k fun K4 hK4 => ?_
  refine W.seq_k fun K5 hK5 => ?_
  refine W.regionT [(0, true), (1, true), (2, true)] (by kernel_rfl) ?_
  refine Plan.move_slice rfl rfl ?_
  refine Plan.len FPack.isl23 rfl rfl ?_
  refine Plan.cmpP (a := (((b1.length : Nat) : Int) : Int)) (b := (2 : Int)) (p := b1.length < 2) rfl rfl rfl rfl icmp_ltN ?_
  refine Plan.nil ?_
  refine hK5 _ _ ?_; clear hK5
  by_cases hc6 : b1.length < 2
  ·
    replace hR := ifT hR hc6
    refine W.condT (congrArg Value.bool (decide_eq_true hc6)) ?_
    refine W.seq_k fun K7 hK7 => ?_
    refine W.regionT [(0, true), (1, false), (2, true)] (by kernel_rfl) ?_
    refine Plan.buildZ FPack.row25 FPack.z25 rfl ?_
    refine Plan.storeP (ps := [(1, fun _ => VN 0), (1, fun _ => .slice none 0 0), (1, fun _ => .slice none 0 0)]) h3 rfl rfl rfl (.cons 0 rfl (.cons 1 rfl (.cons 2 rfl .nil))) ⟨fun _ _ => rfl, fun _ _ => rfl, fun _ _ => rfl, trivial⟩ FPack.sz25 (EffO.keep PIn.nil) fun w8 h8 => ?_
    simp only [List.cons_append, List.nil_append, List.set_cons_zero, List.set_cons_succ] at h8
    refine Plan.assign_int rfl rfl ?_
    refine Plan.nil ?_
    refine hK7 _ _ ?_; clear hK7
    refine W.ret (thenR_ret (finR_ret ?_))
    obtain ⟨iz9, hz9⟩ : ∃ i, Bx LP i _ _ _ _ := ⟨_, Bx.nil 0⟩
    obtain ⟨iz10, hz10⟩ : ∃ i, Bx LP i _ _ _ _ := ⟨_, Bx.nil 0⟩
    have h11 := St.pickT (C := [_, _, _]) h8 [] (by decide)
    simp only [pick, List.filterMap_cons, List.filterMap_nil, List.getElem?_cons_zero, List.getElem?_cons_succ, List.cons_append, List.nil_append] at h11
    subst r
    refine RetOk.mk (.agg h8 rfl (.cons 0 rfl (.cons 1 rfl (.cons 2 rfl .nil))) FPack.agg25 (.tmp_int rfl .nil)) ?_
    subst hLPn
    exact ⟨[], iz9, none, 0, iz10, none, 0, rfl, h11, hz9, hz10⟩
  ·
    replace hR := ifF hR hc6
    refine W.condF (congrArg Value.bool (decide_eq_false hc6)) ?_
    refine W.skip ?_
    refine hK4 _ _ ?_; clear hK4
    refine W.seq_k fun K12 hK12 => ?_
    refine W.regionT [(0, true), (1, true), (2, true), (3, true), (4, true), (5, true)] (by kernel_rfl) ?_
    refine Plan.move_slice rfl rfl ?_
    obtain ⟨hc13, hR⟩ := hR
    refine Plan.idxVS (j := 1) h3 (hb1.app [_, _, _]) FPack.sl23 rfl rfl rfl hc13 ?_
    refine Plan.loadV (j := 1) h3 (hb1.app [_, _, _]) rfl rfl hc13 FPack.sc5 fun r14 hr14 => ?_
    refine Plan.convN (a := (lit b1 1).toNat) FPack.u3 FPack.some5 rfl rfl (Nat.lt_of_lt_of_le (lit b1 1).isLt (by decide)) ?_
    refine Plan.addN (a := 2) (b := (lit b1 1).toNat) rfl rfl rfl (by omega) ?_
    refine Plan.assign_int rfl rfl ?_
    refine Plan.nil ?_
    refine hK12 _ _ ?_; clear hK12
    refine W.seq_k fun K15 hK15 => ?_
    refine W.seq_k fun K16 hK16 => ?_
    refine W.regionT [(0, true), (1, true), (2, true), (3, true), (4, true)] (by kernel_rfl) ?_
    refine Plan.move_slice rfl rfl ?_
    refine Plan.len FPack.isl23 rfl rfl ?_
    refine Plan.move_int rfl rfl ?_
    refine Plan.addN (a := (2 + ((lit b1 1).toNat))) (b := 2) rfl rfl rfl (by omega) ?_
    refine Plan.cmpP (a := (((b1.length : Nat) : Int) : Int)) (b := (((((2 + ((lit b1 1).toNat)) + 2) : Nat) : Int) : Int)) (p := b1.length < ((2 + ((lit b1 1).toNat)) + 2)) rfl rfl rfl rfl icmp_ltN ?_
    refine Plan.nil ?_
    refine hK16 _ _ ?_; clear hK16
    by_cases hc17 : b1.length < ((2 + ((lit b1 1).toNat)) + 2)
    ·
      replace hR := ifT hR hc17
      refine W.condT (congrArg Value.bool (decide_eq_true hc17)) ?_
      refine W.seq_k fun K18 hK18 => ?_
      refine W.regionT [(0, true), (1, false), (2, true)] (by kernel_rfl) ?_
      refine Plan.buildZ FPack.row25 FPack.z25 rfl ?_
      refine Plan.storeP (ps := [(1, fun _ => VN 0), (1, fun _ => .slice none 0 0), (1, fun _ => .slice none 0 0)]) h3 rfl rfl rfl (.cons 0 rfl (.cons 1 rfl (.cons 2 rfl .nil))) ⟨fun _ _ => rfl, fun _ _ => rfl, fun _ _ => rfl, trivial⟩ FPack.sz25 (EffO.keep PIn.nil) fun w19 h19 => ?_
      simp only [List.cons_append, List.nil_append, List.set_cons_zero, List.set_cons_succ] at h19
      refine Plan.assign_int rfl rfl ?_
      refine Plan.nil ?_
      refine hK18 _ _ ?_; clear hK18
      refine W.ret (thenR_ret (finR_ret ?_))
      obtain ⟨iz20, hz20⟩ : ∃ i, Bx LP i _ _ _ _ := ⟨_, Bx.nil 0⟩
      obtain ⟨iz21, hz21⟩ : ∃ i, Bx LP i _ _ _ _ := ⟨_, Bx.nil 0⟩
      have h22 := St.pickT (C := [_, _, _]) h19 [] (by decide)
      simp only [pick, List.filterMap_cons, List.filterMap_nil, List.getElem?_cons_zero, List.getElem?_cons_succ, List.cons_append, List.nil_append] at h22
      subst r
      refine RetOk.mk (.agg h19 rfl (.cons 0 rfl (.cons 1 rfl (.cons 2 rfl .nil))) FPack.agg25 (.tmp_int rfl .nil)) ?_
      subst hLPn
      exact ⟨[], iz20, none, 0, iz21, none, 0, rfl, h22, hz20, hz21⟩
    ·
      replace hR := ifF hR hc17
      refine W.condF (congrArg Value.bool (decide_eq_false hc17)) ?_
      refine W.skip ?_
      refine hK15 _ _ ?_; clear hK15
      refine W.seq_k fun K23 hK23 => ?_
      refine W.regionD FPack.mixed [(0, true), (1, true), (2, true), (3, true), (4, true), (5, true), (6, true), (7, true), (8, true), (9, true), (10, true), (11, true), (12, true), (13, true), (14, true), (15, true), (16, true)] (by kernel_rfl) ?_
      have h24 := h3.drew
      refine Plan.move_int rfl rfl ?_
      refine Plan.addN (a := (2 + ((lit b1 1).toNat))) (b := 2) rfl rfl rfl (by omega) ?_
      refine Plan.move_slice rfl rfl ?_
      refine Plan.move_int rfl rfl ?_
      obtain ⟨hc25, hR⟩ := hR
      refine Plan.idxVS (j := (2 + ((lit b1 1).toNat))) h24 (hb1.app [_, _, _]) FPack.sl23 rfl rfl rfl hc25 ?_
      refine Plan.loadV (j := (2 + ((lit b1 1).toNat))) h24 (hb1.app [_, _, _]) rfl rfl hc25 FPack.sc5 fun r26 hr26 => ?_
      refine Plan.convN (a := (lit b1 (2 + ((lit b1 1).toNat))).toNat) FPack.u3 FPack.some5 rfl rfl (Nat.lt_of_lt_of_le (lit b1 (2 + ((lit b1 1).toNat))).isLt (by decide)) ?_
      obtain ⟨hc27, hR⟩ := hR
      refine Plan.shlN (a := (lit b1 (2 + ((lit b1 1).toNat))).toNat) (c := 8) rfl rfl rfl hc27.1 hc27.2 ?_
      obtain ⟨hc28, hR⟩ := hR
      refine Plan.addN (a := ((2 + ((lit b1 1).toNat)) + 2)) (b := (((lit b1 (2 + ((lit b1 1).toNat))).toNat) * 2 ^ 8)) rfl rfl rfl (by omega) ?_
      refine Plan.move_slice rfl rfl ?_
      refine Plan.move_int rfl rfl ?_
      refine Plan.addN (a := (2 + ((lit b1 1).toNat))) (b := 1) rfl rfl rfl (by omega) ?_
      obtain ⟨hc29, hR⟩ := hR
      refine Plan.idxVS (j := ((2 + ((lit b1 1).toNat)) + 1)) h24 (hb1.app [_, _, _]) FPack.sl23 rfl rfl rfl hc29 ?_
      refine Plan.loadV (j := ((2 + ((lit b1 1).toNat)) + 1)) h24 (hb1.app [_, _, _]) rfl rfl hc29 FPack.sc5 fun r30 hr30 => ?_
      refine Plan.convN (a := (lit b1 ((2 + ((lit b1 1).toNat)) + 1)).toNat) FPack.u3 FPack.some5 rfl rfl (Nat.lt_of_lt_of_le (lit b1 ((2 + ((lit b1 1).toNat)) + 1)).isLt (by decide)) ?_
      obtain ⟨hc31, hR⟩ := hR
      refine Plan.addN (a := (((2 + ((lit b1 1).toNat)) + 2) + (((lit b1 (2 + ((lit b1 1).toNat))).toNat) * 2 ^ 8))) (b := (lit b1 ((2 + ((lit b1 1).toNat)) + 1)).toNat) rfl rfl rfl (by omega) ?_
      refine Plan.assign_int rfl rfl ?_
      refine Plan.nil ?_
      refine hK23 _ _ ?_; clear hK23
      refine W.seq_k fun K32 hK32 => ?_
      refine W.seq_k fun K33 hK33 => ?_
      refine W.regionT [(0, true), (1, true), (2, true), (3, true)] (by kernel_rfl) ?_
      refine Plan.move_slice rfl rfl ?_
      refine Plan.len FPack.isl23 rfl rfl ?_
      refine Plan.move_int rfl rfl ?_
      refine Plan.cmpP (a := (((b1.length : Nat) : Int) : Int)) (b := (((((((2 + ((lit b1 1).toNat)) + 2) + (((lit b1 (2 + ((lit b1 1).toNat))).toNat) * 2 ^ 8)) + ((lit b1 ((2 + ((lit b1 1).toNat)) + 1)).toNat)) : Nat) : Int) : Int)) (p := b1.length < ((((2 + ((lit b1 1).toNat)) + 2) + (((lit b1 (2 + ((lit b1 1).toNat))).toNat) * 2 ^ 8)) + ((lit b1 ((2 + ((lit b1 1).toNat)) + 1)).toNat))) rfl rfl rfl rfl icmp_ltN ?_
      refine Plan.nil ?_
      refine hK33 _ _ ?_; clear hK33
      by_cases hc34 : b1.length < ((((2 + ((lit b1 1).toNat)) + 2) + (((lit b1 (2 + ((lit b1 1).toNat))).toNat) * 2 ^ 8)) + ((lit b1 ((2 + ((lit b1 1).toNat)) + 1)).toNat))
      ·
        replace hR := ifT hR hc34
        refine W.condT (congrArg Value.bool (decide_eq_true hc34)) ?_
        refine W.seq_k fun K35 hK35 => ?_
        refine W.regionT [(0, true), (1, false), (2, true)] (by kernel_rfl) ?_
        refine Plan.buildZ FPack.row25 FPack.z25 rfl ?_
        refine Plan.storeP (ps := [(1, fun _ => VN 0), (1, fun _ => .slice none 0 0), (1, fun _ => .slice none 0 0)]) h24 rfl rfl rfl (.cons 0 rfl (.cons 1 rfl (.cons 2 rfl .nil))) ⟨fun _ _ => rfl, fun _ _ => rfl, fun _ _ => rfl, trivial⟩ FPack.sz25 (EffO.keep PIn.nil) fun w36 h36 => ?_
        simp only [List.cons_append, List.nil_append, List.set_cons_zero, List.set_cons_succ] at h36
        refine Plan.assign_int rfl rfl ?_
        refine Plan.nil ?_
        refine hK35 _ _ ?_; clear hK35
        refine W.ret (thenR_ret (finR_ret ?_))
        obtain ⟨iz37, hz37⟩ : ∃ i, Bx LP i _ _ _ _ := ⟨_, Bx.nil 0⟩
        obtain ⟨iz38, hz38⟩ : ∃ i, Bx LP i _ _ _ _ := ⟨_, Bx.nil 0⟩
        have h39 := St.pickT (C := [_, _, _]) h36 [] (by decide)
        simp only [pick, List.filterMap_cons, List.filterMap_nil, List.getElem?_cons_zero, List.getElem?_cons_succ, List.cons_append, List.nil_append] at h39
        subst r
        refine RetOk.mk (.agg h36 rfl (.cons 0 rfl (.cons 1 rfl (.cons 2 rfl .nil))) FPack.agg25 (.tmp_int rfl .nil)) ?_
        subst hLPn
        exact ⟨[], iz37, none, 0, iz38, none, 0, rfl, h39, hz37, hz38⟩
      ·
        replace hR := ifF hR hc34
        refine W.condF (congrArg Value.bool (decide_eq_false hc34)) ?_
        refine W.skip ?_
        refine hK32 _ _ ?_; clear hK32
        refine W.seq_k fun K40 hK40 => ?_
        refine W.regionF FPack.mixed (.fork [(0, true), (1, true), (2, true), (3, true), (4, true), (5, true), (6, true), (7, true), (8, true), (9, true), (10, true), (11, true), (12, true)] (.line [(13, false), (14, false), (15, false)]) (.line [(14, false), (13, false), (15, false)])) (by kernel_rfl) (PlanT.toFork ?_)
        have h41 := h24.drew
        refine Plan.move_slice rfl rfl ?_
        obtain ⟨hc42, hR⟩ := hR
        refine Plan.idxVS (j := 0) h41 (hb1.app [_, _, _]) FPack.sl23 rfl rfl rfl hc42 ?_
        refine Plan.loadV (j := 0) h41 (hb1.app [_, _, _]) rfl rfl hc42 FPack.sc5 fun r43 hr43 => ?_
        refine Plan.convN (a := (lit b1 0).toNat) FPack.u3 FPack.some5 rfl rfl (Nat.lt_of_lt_of_le (lit b1 0).isLt (by decide)) ?_
        refine Plan.move_slice rfl rfl ?_
        refine Plan.move_int rfl rfl ?_
        obtain ⟨hc44, hR⟩ := hR
        refine Plan.slV (lo := 2) (hi := (2 + ((lit b1 1).toNat))) hb1 FPack.sl23 rfl rfl ⟨_, rfl⟩ ⟨_, rfl⟩ hc44 fun a45 c45 hv45 => ?_
        refine Plan.move_slice rfl rfl ?_
        refine Plan.move_int rfl rfl ?_
        refine Plan.addN (a := (2 + ((lit b1 1).toNat))) (b := 2) rfl rfl rfl (by omega) ?_
        refine Plan.move_int rfl rfl ?_
        obtain ⟨hc46, hR⟩ := hR
        refine Plan.slV (lo := ((2 + ((lit b1 1).toNat)) + 2)) (hi := ((((2 + ((lit b1 1).toNat)) + 2) + (((lit b1 (2 + ((lit b1 1).toNat))).toNat) * 2 ^ 8)) + ((lit b1 ((2 + ((lit b1 1).toNat)) + 1)).toNat))) hb1 FPack.sl23 rfl rfl ⟨_, rfl⟩ ⟨_, rfl⟩ hc46 fun a47 c47 hv47 => ?_
        refine Plan.buildP (ps := [(1, fun _ => VN ((lit b1 0).toNat)), (1, fun _ => .slice a45 ((seg b1 2 (2 + ((lit b1 1).toNat))).length) c45), (1, fun _ => .slice a47 ((seg b1 ((2 + ((lit b1 1).toNat)) + 2) ((((2 + ((lit b1 1).toNat)) + 2) + (((lit b1 (2 + ((lit b1 1).toNat))).toNat) * 2 ^ 8)) + ((lit b1 ((2 + ((lit b1 1).toNat)) + 1)).toNat))).length) c47)]) FPack.pl25 (by decide) FPack.z25 rfl rfl (.one [] [(1, fun _ => .slice none 0 0), (1, fun _ => .slice none 0 0)] (fun _ => VN 0) rfl rfl (.one [(1, fun _ => VN ((lit b1 0).toNat))] [(1, fun _ => .slice none 0 0)] (fun _ => .slice none 0 0) rfl rfl (.one [(1, fun _ => VN ((lit b1 0).toNat)), (1, fun _ => .slice a45 ((seg b1 2 (2 + ((lit b1 1).toNat))).length) c45)] [] (fun _ => .slice none 0 0) rfl rfl .nil))) ?_
        obtain ⟨x_49, x_50, x_51, hr48, hR⟩ := hR
        refine Plan.forked ?_ ?_
        ·
          refine PlanT.toLine ?_
          refine Plan.call (vs := [AG [(1, fun _ => VN ((lit b1 0).toNat)), (1, fun _ => .slice a45 ((seg b1 2 (2 + ((lit b1 1).toNat))).length) c45), (1, fun _ => .slice a47 ((seg b1 ((2 + ((lit b1 1).toNat)) + 2) ((((2 + ((lit b1 1).toNat)) + 2) + (((lit b1 (2 + ((lit b1 1).toNat))).toNat) * 2 ^ 8)) + ((lit b1 ((2 + ((lit b1 1).toNat)) + 1)).toNat))).length) c47)]]) rfl FPack.call63 rfl (pack_twin_ok (hv45.app [_, _, _]) (hv47.app [_, _, _]) hr48 h41) ?_
          rintro _ w78 ⟨C78, iy0_1_72, ay0_1_73, cy0_1_74, iy0_2_75, ay0_2_76, cy0_2_77, rfl, h78, hf78_0, hf78_1⟩
          try dsimp only at hf78_0 hf78_1
          replace h78 := St.pool (N := []) (R := [_, _, _]) h78
          obtain ⟨L, hL79⟩ : ∃ X, X = C78 ++ L := ⟨_, rfl⟩
          obtain ⟨LP, hQ79⟩ : ∃ X, X = C78 ++ LP := ⟨_, rfl⟩
          replace hLP : ∀ r ∈ LP, r ∈ L := by rw [hQ79, hL79]; exact frMemGrow hLP
          have h79 := St.re (N := [_, _, _]) hL79 h78
          simp only [List.cons_append, List.nil_append] at h79
          replace hFr : Fr2 _ _ L LP := hFr.step hL79 hQ79
          obtain ⟨ix80, hv80⟩ : ∃ i, Bx L i ab1 b1.length cb1 b1 := ⟨_, by rw [hL79]; exact hb1.app _⟩
          obtain ⟨ix81, hv81⟩ : ∃ i, Bx L i a45 ((seg b1 2 (2 + ((lit b1 1).toNat))).length) c45 (seg b1 2 (2 + ((lit b1 1).toNat))) := ⟨_, by rw [hL79]; exact hv45.app _⟩
          obtain ⟨ix82, hv82⟩ : ∃ i, Bx L i a47 ((seg b1 ((2 + ((lit b1 1).toNat)) + 2) ((((2 + ((lit b1 1).toNat)) + 2) + (((lit b1 (2 + ((lit b1 1).toNat))).toNat) * 2 ^ 8)) + ((lit b1 ((2 + ((lit b1 1).toNat)) + 1)).toNat))).length) c47 (seg b1 ((2 + ((lit b1 1).toNat)) + 2) ((((2 + ((lit b1 1).toNat)) + 2) + (((lit b1 (2 + ((lit b1 1).toNat))).toNat) * 2 ^ 8)) + ((lit b1 ((2 + ((lit b1 1).toNat)) + 1)).toNat))) := ⟨_, by rw [hL79]; exact hv47.app _⟩
          obtain ⟨jx83, hj83⟩ : ∃ j : Nat, L[j]? = some r43 := ⟨_, by rw [hL79]; exact flget (i := ib1) hr43 _⟩
          have hp84 : ∃ i, Bx LP i ay0_1_73 x_50.length cy0_1_74 x_50 := by rw [hQ79]; exact Bx.lift hf78_0 (fun r hr => List.mem_append_left _ hr)
          obtain ⟨ix84, hv84⟩ := Bx.lift hp84.choose_spec hLP
          have hp85 : ∃ i, Bx LP i ay0_2_76 x_51.length cy0_2_77 x_51 := by rw [hQ79]; exact Bx.lift hf78_1 (fun r hr => List.mem_append_left _ hr)
          obtain ⟨ix85, hv85⟩ := Bx.lift hp85.choose_spec hLP
          refine ⟨_, rfl, .inl ⟨PIn.keep (PIn.cons (jx83 + 3) hj83 PIn.nil) h79, ?_⟩⟩
          refine Plan.alloc h79 rfl FPack.z25 (PIn.cons (jx83 + 3) hj83 PIn.nil) fun b86 w86 hb86 h86 => ?_
          simp only [rngs, Nat.zero_add, Nat.reduceAdd, List.cons_append, List.nil_append] at h86
          refine Plan.storeP (ps := [(1, fun _ => .int .i64 x_49), (1, fun _ => .slice ay0_1_73 x_50.length cy0_1_74), (1, fun _ => .slice ay0_2_76 x_51.length cy0_2_77)]) h86 rfl rfl rfl (.cons 0 rfl (.cons 1 rfl (.cons 2 rfl .nil))) ⟨fun _ _ => rfl, fun _ _ => rfl, fun _ _ => rfl, trivial⟩ FPack.sz25 (EffO.wait rfl) fun w87 h87 => ?_
          simp only [List.cons_append, List.nil_append, List.set_cons_zero, List.set_cons_succ] at h87
          refine Plan.nil ?_
          refine hK40 _ _ ?_; clear hK40
          refine W.seq_k fun K88 hK88 => ?_
          refine W.seq_k fun K89 hK89 => ?_
          refine W.regionT [(0, true), (1, false), (2, true)] (by kernel_rfl) ?_
          refine Plan.loadA h87 rfl rfl (.cons 0 rfl (.cons 1 rfl (.cons 2 rfl .nil))) FPack.agg25 ?_
          obtain ⟨x_91, hr90, hR⟩ := hR
          refine Plan.call (vs := [AG [(1, fun _ => .int .i64 x_49), (1, fun _ => .slice ay0_1_73 x_50.length cy0_1_74), (1, fun _ => .slice ay0_2_76 x_51.length cy0_2_77)]]) rfl FPack.call59 rfl (pack_Check_ok (hv84.app [_, _, _, _, _, _]) (hv85.app [_, _, _, _, _, _]) hr90 h87) ?_
          rintro _ w92 ⟨rfl, h92⟩
          refine ⟨_, rfl, .inr ⟨rfl, ?_⟩⟩
          refine Plan.cmpP (a := (((x_91 : Nat) : Int) : Int)) (b := (0 : Int)) (p := x_91 ≠ 0) rfl rfl rfl rfl icmp_neN ?_
          refine Plan.nil ?_
          refine hK89 _ _ ?_; clear hK89
          by_cases hc93 : x_91 ≠ 0
          ·
            replace hR := ifT hR hc93
            refine W.condT (congrArg Value.bool (decide_eq_true hc93)) ?_
            refine W.seq_k fun K94 hK94 => ?_
            refine W.regionT [(0, true), (1, false), (2, true)] (by kernel_rfl) ?_
            refine Plan.buildZ FPack.row25 FPack.z25 rfl ?_
            refine Plan.storeP (ps := [(1, fun _ => VN 0), (1, fun _ => .slice none 0 0), (1, fun _ => .slice none 0 0)]) h92 rfl rfl rfl (.cons 3 rfl (.cons 4 rfl (.cons 5 rfl .nil))) ⟨fun _ _ => rfl, fun _ _ => rfl, fun _ _ => rfl, trivial⟩ FPack.sz25 (EffO.keep PIn.nil) fun w95 h95 => ?_
            simp only [List.cons_append, List.nil_append, List.set_cons_zero, List.set_cons_succ] at h95
            refine Plan.assign_int rfl rfl ?_
            refine Plan.nil ?_
            refine hK94 _ _ ?_; clear hK94
            refine W.ret (thenR_ret (finR_ret ?_))
            obtain ⟨iz96, hz96⟩ : ∃ i, Bx LP i _ _ _ _ := ⟨_, Bx.nil 0⟩
            obtain ⟨iz97, hz97⟩ : ∃ i, Bx LP i _ _ _ _ := ⟨_, Bx.nil 0⟩
            have h98 := St.pickT (C := [_, _, _, _, _, _]) h95 [] (by decide)
            simp only [pick, List.filterMap_cons, List.filterMap_nil, List.getElem?_cons_zero, List.getElem?_cons_succ, List.cons_append, List.nil_append] at h98
            subst r
            refine RetOk.mk (.agg h95 rfl (.cons 3 rfl (.cons 4 rfl (.cons 5 rfl .nil))) FPack.agg25 (.tmp_int rfl .nil)) ?_
            obtain ⟨CF, hx1, hx2⟩ := hFr
            simp only [List.append_nil] at hx2
            subst hx1
            subst hx2
            exact ⟨_, iz96, none, 0, iz97, none, 0, rfl, h98, hz96, hz97⟩
          ·
            replace hR := ifF hR hc93
            refine W.condF (congrArg Value.bool (decide_eq_false hc93)) ?_
            refine W.skip ?_
            refine hK88 _ _ ?_; clear hK88
            refine W.seq_k fun K99 hK99 => ?_
            refine W.regionT [(0, true), (1, true), (2, false), (3, true)] (by kernel_rfl) ?_
            refine Plan.loadA h92 rfl rfl (.cons 0 rfl (.cons 1 rfl (.cons 2 rfl .nil))) FPack.agg25 ?_
            refine Plan.move_int rfl rfl ?_
            refine Plan.storeP (ps := [(1, fun _ => .int .i64 x_49), (1, fun _ => .slice ay0_1_73 x_50.length cy0_1_74), (1, fun _ => .slice ay0_2_76 x_51.length cy0_2_77)]) h92 rfl rfl rfl (.cons 3 rfl (.cons 4 rfl (.cons 5 rfl .nil))) ⟨fun _ _ => rfl, fun _ _ => rfl, fun _ _ => rfl, trivial⟩ FPack.sz25 (EffO.wait rfl) fun w100 h100 => ?_
            simp only [List.cons_append, List.nil_append, List.set_cons_zero, List.set_cons_succ] at h100
            refine Plan.assign_int rfl rfl ?_
            refine Plan.nil ?_
            refine hK99 _ _ ?_; clear hK99
            refine W.ret (finR_ret ?_)
            obtain ⟨iz101, hz101⟩ : ∃ i, Bx LP i _ _ _ _ := hp84
            obtain ⟨iz102, hz102⟩ : ∃ i, Bx LP i _ _ _ _ := hp85
            have h103 := St.pickT (C := [_, _, _, _, _, _]) h100 [] (by decide)
            simp only [pick, List.filterMap_cons, List.filterMap_nil, List.getElem?_cons_zero, List.getElem?_cons_succ, List.cons_append, List.nil_append] at h103
            subst r
            refine RetOk.mk (.agg h100 rfl (.cons 3 rfl (.cons 4 rfl (.cons 5 rfl .nil))) FPack.agg25 (.tmp_int rfl .nil)) ?_
            obtain ⟨CF, hx1, hx2⟩ := hFr
            simp only [List.append_nil] at hx2
            subst hx1
            subst hx2
            exact ⟨_, iz101, ay0_1_73, cy0_1_74, iz102, ay0_2_76, cy0_2_77, rfl, h103, hz101, hz102⟩
        ·
          refine PlanT.toLine ?_
          refine Plan.alloc h41 rfl FPack.z25 (PIn.cons (ib1 + 3) hr43 PIn.nil) fun b104 w104 hb104 h104 => ?_
          simp only [rngs, Nat.zero_add, Nat.reduceAdd, List.cons_append, List.nil_append] at h104
          refine Plan.call (vs := [AG [(1, fun _ => VN ((lit b1 0).toNat)), (1, fun _ => .slice a45 ((seg b1 2 (2 + ((lit b1 1).toNat))).length) c45), (1, fun _ => .slice a47 ((seg b1 ((2 + ((lit b1 1).toNat)) + 2) ((((2 + ((lit b1 1).toNat)) + 2) + (((lit b1 (2 + ((lit b1 1).toNat))).toNat) * 2 ^ 8)) + ((lit b1 ((2 + ((lit b1 1).toNat)) + 1)).toNat))).length) c47)]]) rfl FPack.call63 rfl (pack_twin_ok (hv45.app [_, _, _, _, _, _]) (hv47.app [_, _, _, _, _, _]) hr48 h104) ?_
          rintro _ w115 ⟨C115, iy0_1_109, ay0_1_110, cy0_1_111, iy0_2_112, ay0_2_113, cy0_2_114, rfl, h115, hf115_0, hf115_1⟩
          try dsimp only at hf115_0 hf115_1
          replace h115 := St.pool (N := []) (R := [_, _, _, _, _, _]) h115
          obtain ⟨L, hL116⟩ : ∃ X, X = C115 ++ L := ⟨_, rfl⟩
          obtain ⟨LP, hQ116⟩ : ∃ X, X = C115 ++ LP := ⟨_, rfl⟩
          replace hLP : ∀ r ∈ LP, r ∈ L := by rw [hQ116, hL116]; exact frMemGrow hLP
          have h116 := St.re (N := [_, _, _, _, _, _]) hL116 h115
          simp only [List.cons_append, List.nil_append] at h116
          replace hFr : Fr2 _ _ L LP := hFr.step hL116 hQ116
          obtain ⟨ix117, hv117⟩ : ∃ i, Bx L i ab1 b1.length cb1 b1 := ⟨_, by rw [hL116]; exact hb1.app _⟩
          obtain ⟨ix118, hv118⟩ : ∃ i, Bx L i a45 ((seg b1 2 (2 + ((lit b1 1).toNat))).length) c45 (seg b1 2 (2 + ((lit b1 1).toNat))) := ⟨_, by rw [hL116]; exact hv45.app _⟩
          obtain ⟨ix119, hv119⟩ : ∃ i, Bx L i a47 ((seg b1 ((2 + ((lit b1 1).toNat)) + 2) ((((2 + ((lit b1 1).toNat)) + 2) + (((lit b1 (2 + ((lit b1 1).toNat))).toNat) * 2 ^ 8)) + ((lit b1 ((2 + ((lit b1 1).toNat)) + 1)).toNat))).length) c47 (seg b1 ((2 + ((lit b1 1).toNat)) + 2) ((((2 + ((lit b1 1).toNat)) + 2) + (((lit b1 (2 + ((lit b1 1).toNat))).toNat) * 2 ^ 8)) + ((lit b1 ((2 + ((lit b1 1).toNat)) + 1)).toNat))) := ⟨_, by rw [hL116]; exact hv47.app _⟩
          obtain ⟨jx120, hj120⟩ : ∃ j : Nat, L[j]? = some r43 := ⟨_, by rw [hL116]; exact flget (i := ib1) hr43 _⟩
          have hp121 : ∃ i, Bx LP i ay0_1_110 x_50.length cy0_1_111 x_50 := by rw [hQ116]; exact Bx.lift hf115_0 (fun r hr => List.mem_append_left _ hr)
          obtain ⟨ix121, hv121⟩ := Bx.lift hp121.choose_spec hLP
          have hp122 : ∃ i, Bx LP i ay0_2_113 x_51.length cy0_2_114 x_51 := by rw [hQ116]; exact Bx.lift hf115_1 (fun r hr => List.mem_append_left _ hr)
          obtain ⟨ix122, hv122⟩ := Bx.lift hp122.choose_spec hLP
          refine ⟨_, rfl, .inl ⟨PIn.keep (PIn.cons (jx120 + 6) hj120 PIn.nil) h116, ?_⟩⟩
          refine Plan.storeP (ps := [(1, fun _ => .int .i64 x_49), (1, fun _ => .slice ay0_1_110 x_50.length cy0_1_111), (1, fun _ => .slice ay0_2_113 x_51.length cy0_2_114)]) h116 rfl rfl rfl (.cons 0 rfl (.cons 1 rfl (.cons 2 rfl .nil))) ⟨fun _ _ => rfl, fun _ _ => rfl, fun _ _ => rfl, trivial⟩ FPack.sz25 (EffO.wait rfl) fun w123 h123 => ?_
          simp only [List.cons_append, List.nil_append, List.set_cons_zero, List.set_cons_succ] at h123
          refine Plan.nil ?_
          refine hK40 _ _ ?_; clear hK40
          refine W.seq_k fun K124 hK124 => ?_
          refine W.seq_k fun K125 hK125 => ?_
          refine W.regionT [(0, true), (1, false), (2, true)] (by kernel_rfl) ?_
          refine Plan.loadA h123 rfl rfl (.cons 0 rfl (.cons 1 rfl (.cons 2 rfl .nil))) FPack.agg25 ?_
          obtain ⟨x_127, hr126, hR⟩ := hR
          refine Plan.call (vs := [AG [(1, fun _ => .int .i64 x_49), (1, fun _ => .slice ay0_1_110 x_50.length cy0_1_111), (1, fun _ => .slice ay0_2_113 x_51.length cy0_2_114)]]) rfl FPack.call59 rfl (pack_Check_ok (hv121.app [_, _, _, _, _, _]) (hv122.app [_, _, _, _, _, _]) hr126 h123) ?_
          rintro _ w128 ⟨rfl, h128⟩
          refine ⟨_, rfl, .inr ⟨rfl, ?_⟩⟩
          refine Plan.cmpP (a := (((x_127 : Nat) : Int) : Int)) (b := (0 : Int)) (p := x_127 ≠ 0) rfl rfl rfl rfl icmp_neN ?_
          refine Plan.nil ?_
          refine hK125 _ _ ?_; clear hK125
          by_cases hc129 : x_127 ≠ 0
          ·
            replace hR := ifT hR hc129
            refine W.condT (congrArg Value.bool (decide_eq_true hc129)) ?_
            refine W.seq_k fun K130 hK130 => ?_
            refine W.regionT [(0, true), (1, false), (2, true)] (by kernel_rfl) ?_
            refine Plan.buildZ FPack.row25 FPack.z25 rfl ?_
            refine Plan.storeP (ps := [(1, fun _ => VN 0), (1, fun _ => .slice none 0 0), (1, fun _ => .slice none 0 0)]) h128 rfl rfl rfl (.cons 3 rfl (.cons 4 rfl (.cons 5 rfl .nil))) ⟨fun _ _ => rfl, fun _ _ => rfl, fun _ _ => rfl, trivial⟩ FPack.sz25 (EffO.keep PIn.nil) fun w131 h131 => ?_
            simp only [List.cons_append, List.nil_append, List.set_cons_zero, List.set_cons_succ] at h131
            refine Plan.assign_int rfl rfl ?_
            refine Plan.nil ?_
            refine hK130 _ _ ?_; clear hK130
            refine W.ret (thenR_ret (finR_ret ?_))
            obtain ⟨iz132, hz132⟩ : ∃ i, Bx LP i _ _ _ _ := ⟨_, Bx.nil 0⟩
            obtain ⟨iz133, hz133⟩ : ∃ i, Bx LP i _ _ _ _ := ⟨_, Bx.nil 0⟩
            have h134 := St.pickT (C := [_, _, _, _, _, _]) h131 [] (by decide)
            simp only [pick, List.filterMap_cons, List.filterMap_nil, List.getElem?_cons_zero, List.getElem?_cons_succ, List.cons_append, List.nil_append] at h134
            subst r
            refine RetOk.mk (.agg h131 rfl (.cons 3 rfl (.cons 4 rfl (.cons 5 rfl .nil))) FPack.agg25 (.tmp_int rfl .nil)) ?_
            obtain ⟨CF, hx1, hx2⟩ := hFr
            simp only [List.append_nil] at hx2
            subst hx1
            subst hx2
            exact ⟨_, iz132, none, 0, iz133, none, 0, rfl, h134, hz132, hz133⟩
          ·
            replace hR := ifF hR hc129
            refine W.condF (congrArg Value.bool (decide_eq_false hc129)) ?_
            refine W.skip ?_
            refine hK124 _ _ ?_; clear hK124
            refine W.seq_k fun K135 hK135 => ?_
            refine W.regionT [(0, true), (1, true), (2, false), (3, true)] (by kernel_rfl) ?_
            refine Plan.loadA h128 rfl rfl (.cons 0 rfl (.cons 1 rfl (.cons 2 rfl .nil))) FPack.agg25 ?_
            refine Plan.move_int rfl rfl ?_
            refine Plan.storeP (ps := [(1, fun _ => .int .i64 x_49), (1, fun _ => .slice ay0_1_110 x_50.length cy0_1_111), (1, fun _ => .slice ay0_2_113 x_51.length cy0_2_114)]) h128 rfl rfl rfl (.cons 3 rfl (.cons 4 rfl (.cons 5 rfl .nil))) ⟨fun _ _ => rfl, fun _ _ => rfl, fun _ _ => rfl, trivial⟩ FPack.sz25 (EffO.wait rfl) fun w136 h136 => ?_
            simp only [List.cons_append, List.nil_append, List.set_cons_zero, List.set_cons_succ] at h136
            refine Plan.assign_int rfl rfl ?_
            refine Plan.nil ?_
            refine hK135 _ _ ?_; clear hK135
            refine W.ret (finR_ret ?_)
            obtain ⟨iz137, hz137⟩ : ∃ i, Bx LP i _ _ _ _ := hp121
            obtain ⟨iz138, hz138⟩ : ∃ i, Bx LP i _ _ _ _ := hp122
            have h139 := St.pickT (C := [_, _, _, _, _, _]) h136 [] (by decide)
            simp only [pick, List.filterMap_cons, List.filterMap_nil, List.getElem?_cons_zero, List.getElem?_cons_succ, List.cons_append, List.nil_append] at h139
            subst r
            refine RetOk.mk (.agg h136 rfl (.cons 3 rfl (.cons 4 rfl (.cons 5 rfl .nil))) FPack.agg25 (.tmp_int rfl .nil)) ?_
            obtain ⟨CF, hx1, hx2⟩ := hFr
            simp only [List.append_nil] at hx2
            subst hx1
            subst hx2
            exact ⟨_, iz137, ay0_1_110, cy0_1_111, iz138, ay0_2_113, cy0_2_114, rfl, h139, hz137, hz138⟩


set_option maxRecDepth 8000 in
set_option maxHeartbeats 1000000 in
theorem pack_Decode_ok {B : Nat} {w0 w : World} {L : List Rg} {count1 : Int} {content2 : List Byte} {acontent2 : Option Addr} {ncontent2 ccontent2 icontent2 : Nat} (hcontent2 : Bx L icontent2 acontent2 ncontent2 ccontent2 content2) {r : ((List (Int × (List Byte) × (List Byte))) × Nat)} (hR : pack_Decode count1 content2 r) (HST : St B w0 (L) w) :
    Calls Try.prog 23 #[.int .i64 count1, .slice acontent2 ncontent2 ccontent2] w fun e w' => ∃ C : List Rg, ∃ ay0 : Option Addr, ∃ py0 : Option Nat, ∃ ny0 : Nat, ∃ cy0 : Nat, ∃ Fy0 : Nat → Value, e = .returned (.tuple #[.slice ay0 ny0 cy0, VN r.2]) ∧ St B w0 (⟨py0, 0, cy0 * 3, Fy0, true⟩ :: (C ++ L)) w' ∧ LO (D25.at C) [] ay0 py0 ny0 cy0 Fy0 r.1 := by
  refine W.enter 56 Try.func23 rfl rfl rfl ?_
  unfold pack_Decode at hR
  obtain ⟨LP, hLPn⟩ : ∃ X, X = ([] : List Rg) := ⟨_, rfl⟩
  have hLP : ∀ r ∈ LP, r ∈ L := by rw [hLPn]; exact fun r hr => nomatch hr
  have hFr : Fr2 L [] L LP := by rw [hLPn]; exact Fr2.refl _ _
  have econtent2 := hcontent2.hl; subst econtent2
  refine W.seq_k fun K3 hK3 => ?_
  refine W.regionT [(0, true), (1, true)] (by kernel_rfl) ?_
  refine Plan.assign_slice rfl rfl ?_
  refine Plan.assign_int rfl rfl ?_
  refine Plan.nil ?_
  refine hK3 _ _ ?_; clear hK3
  refine W.seq_k fun K4 hK4 => ?_
  refine W.block ?_
  refine W.seq_k fun K5 hK5 => ?_
  refine W.regionT [(0, true), (1, true), (2, true)] (by kernel_rfl) ?_
  refine Plan.move_int rfl rfl ?_
  refine Plan.cmpP (a := (count1 : Int)) (b := (0 : Int)) (p := count1 < 0) rfl rfl rfl rfl icmp_lt ?_
  refine Plan.assign_bool rfl rfl ?_
  refine Plan.nil ?_
  refine hK5 _ _ ?_; clear hK5
  by_cases hc6 : count1 < 0
  ·
    replace hR := ifT hR hc6
    refine W.condT (congrArg Value.bool (decide_eq_true hc6)) ?_
    refine W.seq_k fun K7 hK7 => ?_
    refine W.regionT [(0, true), (1, true)] (by kernel_rfl) ?_
    refine Plan.assign_slice rfl rfl ?_
    refine Plan.assign_int rfl rfl ?_
    refine Plan.nil ?_
    refine hK7 _ _ ?_; clear hK7
    refine W.ret (blockR_ret (thenR_ret (finR_ret ?_)))
    have h8 : St B w0 (⟨none, 0, 0 * 3, fun _ => undef, true⟩ :: _) _ := HST.nilE (fun _ => undef)
    subst r
    refine RetOk.mk (.tmp_slice rfl (.tmp_int rfl .nil)) ?_
    subst hLPn
    exact ⟨[], none, none, 0, 0, (fun _ => undef), rfl, h8, LO.nil⟩
  ·
    replace hR := ifF hR hc6
    refine W.condF (congrArg Value.bool (decide_eq_false hc6)) ?_
    refine W.seq_k fun K9 hK9 => ?_
    refine W.regionT [(0, true), (1, true), (2, true), (3, true)] (by kernel_rfl) ?_
    refine Plan.move_slice rfl rfl ?_
    refine Plan.len FPack.isl23 rfl rfl ?_
    refine Plan.cmpP (a := (((content2.length : Nat) : Int) : Int)) (b := (1008 : Int)) (p := content2.length < 1008) rfl rfl rfl rfl icmp_ltN ?_
    refine Plan.assign_bool rfl rfl ?_
    refine Plan.nil ?_
    refine hK9 _ _ ?_; clear hK9
    by_cases hc10 : content2.length < 1008
    ·
      replace hR := ifT hR hc10
      refine W.condT (congrArg Value.bool (decide_eq_true hc10)) ?_
      refine W.seq_k fun K11 hK11 => ?_
      refine W.regionT [(0, true), (1, true)] (by kernel_rfl) ?_
      refine Plan.assign_slice rfl rfl ?_
      refine Plan.assign_int rfl rfl ?_
      refine Plan.nil ?_
      refine hK11 _ _ ?_; clear hK11
      refine W.ret (blockR_ret (thenR_ret (finR_ret ?_)))
      have h12 : St B w0 (⟨none, 0, 0 * 3, fun _ => undef, true⟩ :: _) _ := HST.nilE (fun _ => undef)
      subst r
      refine RetOk.mk (.tmp_slice rfl (.tmp_int rfl .nil)) ?_
      subst hLPn
      exact ⟨[], none, none, 0, 0, (fun _ => undef), rfl, h12, LO.nil⟩
    ·
      replace hR := ifF hR hc10
      refine W.condF (congrArg Value.bool (decide_eq_false hc10)) ?_
      refine W.seq_k fun K13 hK13 => ?_
      refine W.regionT [(0, true), (1, true), (2, true), (3, true)] (by kernel_rfl) ?_
      refine Plan.move_slice rfl rfl ?_
      refine Plan.len FPack.isl23 rfl rfl ?_
      refine Plan.cmpP (a := (((content2.length : Nat) : Int) : Int)) (b := (1008 : Int)) (p := 1008 < content2.length) rfl rfl rfl rfl icmp_gtN ?_
      refine Plan.assign_bool rfl rfl ?_
      refine Plan.nil ?_
      refine hK13 _ _ ?_; clear hK13
      by_cases hc14 : 1008 < content2.length
      ·
        replace hR := ifT hR hc14
        refine W.condT (congrArg Value.bool (decide_eq_true hc14)) ?_
        refine W.seq_k fun K15 hK15 => ?_
        refine W.regionT [(0, true), (1, true)] (by kernel_rfl) ?_
        refine Plan.assign_slice rfl rfl ?_
        refine Plan.assign_int rfl rfl ?_
        refine Plan.nil ?_
        refine hK15 _ _ ?_; clear hK15
        refine W.ret (blockR_ret (thenR_ret (finR_ret ?_)))
        have h16 : St B w0 (⟨none, 0, 0 * 3, fun _ => undef, true⟩ :: _) _ := HST.nilE (fun _ => undef)
        subst r
        refine RetOk.mk (.tmp_slice rfl (.tmp_int rfl .nil)) ?_
        subst hLPn
        exact ⟨[], none, none, 0, 0, (fun _ => undef), rfl, h16, LO.nil⟩
      ·
        replace hR := ifF hR hc14
        refine W.condF (congrArg Value.bool (decide_eq_false hc14)) ?_
        refine W.skip ?_
        refine blockR_norm ?_
        refine hK4 _ _ ?_; clear hK4
        refine W.seq_k fun K17 hK17 => ?_
        refine W.regionT [(0, true)] (by kernel_rfl) ?_
        refine Plan.assign_slice rfl rfl ?_
        refine Plan.nil ?_
        refine hK17 _ _ ?_; clear hK17
        refine W.seq_k fun K18 hK18 => ?_
        refine W.seq_k fun K19 hK19 => ?_
        refine W.regionT [(0, true), (1, true)] (by kernel_rfl) ?_
        refine Plan.move_int rfl rfl ?_
        refine Plan.move_int rfl rfl ?_
        refine Plan.nil ?_
        refine hK19 _ _ ?_; clear hK19
        have hFj133 : Fr2 L LP L LP := Fr2.refl _ _
        have h134 : St B w0 (⟨none, 0, 0 * 3, fun _ => undef, true⟩ :: _) _ := HST.nilE (fun _ => undef)
        obtain ⟨x133, hI133, hR0133⟩ := hR
        refine W.cutN (fun e w => ∃ y_content131 : List Byte, ∃ y_out132 : List (Int × (List Byte) × (List Byte)), x133 = some (y_content131, y_out132) ∧ ∃ CG LG : List Rg, LG = CG ++ L ∧ ∃ QG : List Rg, QG = CG ++ LP ∧ ∃ L : List Rg, L = LG ∧ ∃ LP : List Rg, LP = QG ∧ (∀ r ∈ LP, r ∈ L) ∧ ∃ icontent131 : Nat, ∃ acontent131 : Option Addr, ∃ ccontent131 : Nat, ∃ n_out132 : Nat, ∃ aout132 : Option Addr, ∃ pout132 : Option Nat, ∃ cout132 : Nat, ∃ Fout132 : Nat → Value, EnvHas e [(1, .slice acontent131 y_content131.length ccontent131), (6, .slice aout132 n_out132 cout132)] ∧ St B w0 (⟨pout132, 0, cout132 * 3, Fout132, true⟩ :: L) w ∧ Bx L icontent131 acontent131 y_content131.length ccontent131 y_content131 ∧ LO (D25.at LP) [] aout132 pout132 n_out132 cout132 Fout132 y_out132) ?_ ?_
        ·
          refine W.block ?_
          refine W.iter hI133 (fun (s133 : ((List Byte) × (List (Int × (List Byte) × (List Byte))) × Nat)) e w => ∃ CG LG : List Rg, LG = CG ++ L ∧ ∃ QG : List Rg, QG = CG ++ LP ∧ ∃ L : List Rg, L = LG ∧ ∃ LP : List Rg, LP = QG ∧ (∀ r ∈ LP, r ∈ L) ∧ ∃ icontent127 : Nat, ∃ acontent127 : Option Addr, ∃ ccontent127 : Nat, ∃ n_out128 : Nat, ∃ aout128 : Option Addr, ∃ pout128 : Option Nat, ∃ cout128 : Nat, ∃ Fout128 : Nat → Value, EnvHas e [(1, .slice acontent127 s133.1.length ccontent127), (6, .slice aout128 n_out128 cout128), (20, .int .i64 count1), (21, VN s133.2.2)] ∧ St B w0 (⟨pout128, 0, cout128 * 3, Fout128, true⟩ :: L) w ∧ Bx L icontent127 acontent127 s133.1.length ccontent127 s133.1 ∧ LO (D25.at LP) [] aout128 pout128 n_out128 cout128 Fout128 s133.2.1) ⟨[], L, rfl, LP, rfl, L, rfl, LP, rfl, hLP, icontent2, acontent2, ccontent2, 0, none, none, 0, (fun _ => undef), (EnvHas.cons rfl (EnvHas.cons rfl (EnvHas.cons rfl (EnvHas.cons rfl EnvHas.nil)))), h134, hcontent2, LO.nil⟩ ?_
          rintro ⟨content127, out128, t130⟩ o133 hR hx133 ev135 wl135 ⟨CG135, LG135, hlg135, QG135, hqg135, L, hLe135, LP, hQe135, hLPn135, icontent127, acontent127, ccontent127, n_out128, aout128, pout128, cout128, Fout128, he135, h135, hcontent127, hout128⟩
          try dsimp only at he135 h135 hcontent127 hout128
          obtain rfl : List.length (α := (Int × (List Byte) × (List Byte))) out128 = n_out128 := hout128.hl
          obtain ⟨ev135, rfl⟩ := he135.open
          unfold pack_Decode_l0 at hR
          have hL135 := hLe135.trans hlg135
          have hQ135 := hQe135.trans hqg135
          replace hLP : ∀ r ∈ LP, r ∈ L := by rw [hQ135, hL135]; exact frMemGrow hLP
          replace hFr : Fr2 _ _ L LP := hFr.step hL135 hQ135
          replace hFj133 : Fr2 _ _ L LP := hFj133.step hL135 hQ135
          refine W.seq_k fun K137 hK137 => ?_
          refine W.regionT [(0, true)] (by kernel_rfl) ?_
          refine Plan.cmpP (a := (((t130 : Nat) : Int) : Int)) (b := (count1 : Int)) (p := ((t130 : Nat) : Int) < count1) rfl rfl rfl rfl icmp_lt ?_
          refine Plan.nil ?_
          refine hK137 _ _ ?_; clear hK137
          refine W.seq_k fun K138 hK138 => ?_
          by_cases hc139 : ((t130 : Nat) : Int) < count1
          ·
            replace hR := ifT hR hc139
            refine W.condT (congrArg Value.bool (decide_eq_true hc139)) ?_
            refine W.skip ?_
            refine hK138 _ _ ?_; clear hK138
            refine W.seq_k fun K140 hK140 => ?_
            refine W.block ?_
            refine W.seq_k fun K141 hK141 => ?_
            refine W.regionT [(0, true), (1, false), (2, true), (3, true), (4, true), (5, false), (6, false), (7, true)] (by kernel_rfl) ?_
            refine Plan.move_slice rfl rfl ?_
            obtain ⟨x_143, x_144, x_145, x_146, hr142, hR⟩ := hR
            refine Plan.call (vs := [.slice acontent127 content127.length ccontent127]) rfl FPack.call64 rfl (pack_first_ok (hcontent127.app [_]) hr142 h135) ?_
            rintro _ w153 ⟨C153, iy0_1_147, ay0_1_148, cy0_1_149, iy0_2_150, ay0_2_151, cy0_2_152, rfl, h153, hf153_0, hf153_1⟩
            try dsimp only at hf153_0 hf153_1
            replace h153 := St.pool (N := []) (R := [_]) h153
            obtain ⟨L, hL154⟩ : ∃ X, X = C153 ++ L := ⟨_, rfl⟩
            obtain ⟨LP, hQ154⟩ : ∃ X, X = C153 ++ LP := ⟨_, rfl⟩
            replace hLP : ∀ r ∈ LP, r ∈ L := by rw [hQ154, hL154]; exact frMemGrow hLP
            have h154 := St.re (N := [_]) hL154 h153
            simp only [List.cons_append, List.nil_append] at h154
            replace hFr : Fr2 _ _ L LP := hFr.step hL154 hQ154
            replace hFj133 : Fr2 _ _ L LP := hFj133.step hL154 hQ154
            obtain ⟨ix155, hv155⟩ : ∃ i, Bx L i acontent127 content127.length ccontent127 content127 := ⟨_, by rw [hL154]; exact hcontent127.app _⟩
            have ho156 : LO (D25.at LP) [] aout128 pout128 (out128).length cout128 Fout128 out128 := by rw [hQ154]; exact LO.grow D25_lifts (fun r hr => List.mem_append_right _ hr) hout128
            have hp157 : ∃ i, Bx LP i ay0_1_148 x_144.length cy0_1_149 x_144 := by rw [hQ154]; exact Bx.lift hf153_0 (fun r hr => List.mem_append_left _ hr)
            obtain ⟨ix157, hv157⟩ := Bx.lift hp157.choose_spec hLP
            have hp158 : ∃ i, Bx LP i ay0_2_151 x_145.length cy0_2_152 x_145 := by rw [hQ154]; exact Bx.lift hf153_1 (fun r hr => List.mem_append_left _ hr)
            obtain ⟨ix158, hv158⟩ := Bx.lift hp158.choose_spec hLP
            refine ⟨_, rfl, .inl ⟨PIn.keep PIn.nil h154, ?_⟩⟩
            refine Plan.move_tuple rfl rfl ?_
            refine Plan.extract_agg rfl rfl rfl ?_
            refine Plan.extract_int rfl rfl rfl ?_
            refine Plan.alloc h154 rfl FPack.z25 PIn.nil fun b159 w159 hb159 h159 => ?_
            simp only [rngs, Nat.zero_add, Nat.reduceAdd, List.cons_append, List.nil_append] at h159
            refine Plan.storeP (ps := [(1, fun _ => .int .i64 x_143), (1, fun _ => .slice ay0_1_148 x_144.length cy0_1_149), (1, fun _ => .slice ay0_2_151 x_145.length cy0_2_152)]) h159 rfl rfl rfl (.cons 0 rfl (.cons 1 rfl (.cons 2 rfl .nil))) ⟨fun _ _ => rfl, fun _ _ => rfl, fun _ _ => rfl, trivial⟩ FPack.sz25 (EffO.keep PIn.nil) fun w160 h160 => ?_
            simp only [List.cons_append, List.nil_append, List.set_cons_zero, List.set_cons_succ] at h160
            refine Plan.assign_int rfl rfl ?_
            refine Plan.nil ?_
            refine hK141 _ _ ?_; clear hK141
            refine W.seq_k fun K161 hK161 => ?_
            refine W.seq_k fun K162 hK162 => ?_
            refine W.regionT [(0, true), (1, true)] (by kernel_rfl) ?_
            refine Plan.move_int rfl rfl ?_
            refine Plan.cmpP (a := (((x_146 : Nat) : Int) : Int)) (b := (0 : Int)) (p := x_146 = 0) rfl rfl rfl rfl icmp_eqN ?_
            refine Plan.nil ?_
            refine hK162 _ _ ?_; clear hK162
            by_cases hc163 : x_146 = 0
            ·
              replace hR := ifT hR hc163
              refine W.condT (congrArg Value.bool (decide_eq_true hc163)) ?_
              refine W.seq_k fun K164 hK164 => ?_
              refine W.regionT [(0, true), (1, true)] (by kernel_rfl) ?_
              refine Plan.assign_slice rfl rfl ?_
              refine Plan.assign_int rfl rfl ?_
              refine Plan.nil ?_
              refine hK164 _ _ ?_; clear hK164
              refine W.ret (thenR_ret (blockR_ret (thenR_ret (iterR_ret (blockR_ret (thenR_ret (thenR_ret (finR_ret ?_))))))))
              have h165 : St B w0 (⟨none, 0, 0 * 3, fun _ => undef, true⟩ :: _) _ := h160.nilE (fun _ => undef)
              have h166 := St.pickT (C := [_, _, _, _, _]) h165 [0] (by decide)
              simp only [pick, List.filterMap_cons, List.filterMap_nil, List.getElem?_cons_zero, List.getElem?_cons_succ, List.cons_append, List.nil_append] at h166
              replace hR := hR.2
              subst r
              refine RetOk.mk (.tmp_slice rfl (.tmp_int rfl .nil)) ?_
              obtain ⟨CF, hx1, hx2⟩ := hFr
              simp only [List.append_nil] at hx2
              subst hx1
              subst hx2
              exact ⟨_, none, none, 0, 0, (fun _ => undef), rfl, h166, LO.nil⟩
            ·
              replace hR := ifF hR hc163
              refine W.condF (congrArg Value.bool (decide_eq_false hc163)) ?_
              refine W.skip ?_
              refine hK161 _ _ ?_; clear hK161
              refine W.seq_k fun K167 hK167 => ?_
              obtain ⟨ok179, hX179, hR0179⟩ := hR
              refine W.cutN (fun e w => (ok179 = true) ∧ EnvHas e [(1, .slice acontent127 content127.length ccontent127), (6, .slice aout128 out128.length cout128), (7, .pointer (some ⟨b159, 0, none⟩)), (8, VN x_146), (20, .int .i64 count1), (21, VN t130)] ∧ St B w0 (⟨some b159, 0, 1, fun _ => .int .i64 x_143, true⟩ :: ⟨some b159, 1, 1, fun _ => .slice ay0_1_148 x_144.length cy0_1_149, true⟩ :: ⟨some b159, 2, 1, fun _ => .slice ay0_2_151 x_145.length cy0_2_152, true⟩ :: ⟨pout128, 0, cout128 * 3, Fout128, true⟩ :: L) w) ?_ ?_
              ·
                replace hR := hX179
                refine W.seq_k fun K180 hK180 => ?_
                refine W.regionD FPack.mixed [(0, true), (1, true), (2, true), (3, true), (4, true), (5, true), (6, true), (7, true), (8, true), (9, true), (10, true), (11, false), (12, true), (13, true)] (by kernel_rfl) ?_
                have h181 := h160.drew
                refine Plan.move_slice rfl rfl ?_
                refine Plan.len FPack.isl22 rfl rfl ?_
                by_cases hc182 : 0 < out128.length
                ·
                  replace hR := ifT hR hc182
                  refine Plan.cmpV (a := (((out128.length : Nat) : Int) : Int)) (b := (0 : Int)) (p := 0 < out128.length) (v := true) rfl rfl rfl rfl icmp_gtN (decide_eq_true hc182) ?_
                  refine Plan.move_bool rfl rfl ?_
                  refine Plan.move_slice rfl rfl ?_
                  refine Plan.move_slice rfl rfl ?_
                  refine Plan.len FPack.isl22 rfl rfl ?_
                  obtain ⟨hc183, hR⟩ := hR
                  refine Plan.subI (a := ((out128.length : Nat) : Int)) (b := 1) rfl rfl rfl (by omega) ?_
                  obtain ⟨hc184, hR⟩ := hR
                  refine Plan.idxLVS (D := (D25.at LP)) (j := (((out128.length : Nat) : Int) - 1).toNat) h181 (LO.lvf EL.at_flat ho156 3 rfl) FPack.sl22 rfl rfl (congrArg (Value.int .i64) (Int.toNat_of_nonneg hc184.1).symm) (toNat_lt hc184.1 hc184.2) ?_
                  refine Plan.loadLV (D := (D25.at LP)) (X := out128) (j := (((out128.length : Nat) : Int) - 1).toNat) (sz := 3) h181 ((0 : Int), ([] : List Byte), ([] : List Byte)) (LO.lvf EL.at_flat ho156 3 rfl) rfl rfl (toNat_lt hc184.1 hc184.2) rfl FPack.agg25 fun b185 r185 hs185 hr185 => ?_
                  obtain ⟨⟨i185_1, hv185_1⟩, ⟨i185_2, hv185_2⟩⟩ := hs185
                  have hp185_1 : ∃ i, Bx LP i _ _ _ _ := ⟨_, hv185_1⟩
                  obtain ⟨i185_1, hv185_1⟩ := Bx.lift hv185_1 hLP
                  have hp185_2 : ∃ i, Bx LP i _ _ _ _ := ⟨_, hv185_2⟩
                  obtain ⟨i185_2, hv185_2⟩ := Bx.lift hv185_2 hLP
                  refine Plan.loadA h181 rfl rfl (.cons 0 rfl (.cons 1 rfl (.cons 2 rfl .nil))) FPack.agg25 ?_
                  obtain ⟨x_187, hr186, hR⟩ := hR
                  refine Plan.call (vs := [AG [(1, fun _ => .int .i64 ((out128.getD ((((out128.length : Nat) : Int) - 1).toNat) ((0 : Int), ([] : List Byte), ([] : List Byte))).1)), (1, fun _ => .slice ((b185.1).1) (((out128.getD ((((out128.length : Nat) : Int) - 1).toNat) ((0 : Int), ([] : List Byte), ([] : List Byte))).2.1).length) ((b185.1).2)), (1, fun _ => .slice ((b185.2).1) (((out128.getD ((((out128.length : Nat) : Int) - 1).toNat) ((0 : Int), ([] : List Byte), ([] : List Byte))).2.2).length) ((b185.2).2))], AG [(1, fun _ => .int .i64 x_143), (1, fun _ => .slice ay0_1_148 x_144.length cy0_1_149), (1, fun _ => .slice ay0_2_151 x_145.length cy0_2_152)]]) rfl FPack.call16 rfl (pack_Compare_ok (hv185_1.app [_, _, _, _]) (hv185_2.app [_, _, _, _]) (hv157.app [_, _, _, _]) (hv158.app [_, _, _, _]) hr186 h181) ?_
                  rintro _ w188 ⟨rfl, h188⟩
                  refine ⟨_, rfl, .inr ⟨rfl, ?_⟩⟩
                  refine Plan.cmpP (a := (x_187 : Int)) (b := (0 : Int)) (p := 0 ≤ x_187) rfl rfl rfl rfl icmp_ge ?_
                  refine Plan.pickTb rfl rfl rfl ?_
                  refine Plan.nil ?_
                  refine hK180 _ _ ?_; clear hK180
                  by_cases hc189 : 0 ≤ x_187
                  ·
                    replace hR := ifT hR hc189
                    refine W.condT (congrArg Value.bool (decide_eq_true hc189)) ?_
                    refine W.seq_k fun K190 hK190 => ?_
                    refine W.regionT [(0, true), (1, true)] (by kernel_rfl) ?_
                    refine Plan.assign_slice rfl rfl ?_
                    refine Plan.assign_int rfl rfl ?_
                    refine Plan.nil ?_
                    refine hK190 _ _ ?_; clear hK190
                    refine W.ret (thenR_ret (thenR_ret (blockR_ret (thenR_ret (iterR_ret (blockR_ret (thenR_ret (thenR_ret (finR_ret ?_)))))))))
                    have h191 : St B w0 (⟨none, 0, 0 * 3, fun _ => undef, true⟩ :: _) _ := h188.nilE (fun _ => undef)
                    have h192 := St.pickT (C := [_, _, _, _, _]) h191 [0] (by decide)
                    simp only [pick, List.filterMap_cons, List.filterMap_nil, List.getElem?_cons_zero, List.getElem?_cons_succ, List.cons_append, List.nil_append] at h192
                    replace hR := hR.2
                    replace hR := hR.2
                    subst r
                    refine RetOk.mk (.tmp_slice rfl (.tmp_int rfl .nil)) ?_
                    obtain ⟨CF, hx1, hx2⟩ := hFr
                    simp only [List.append_nil] at hx2
                    subst hx1
                    subst hx2
                    exact ⟨_, none, none, 0, 0, (fun _ => undef), rfl, h192, LO.nil⟩
                  ·
                    replace hR := ifF hR hc189
                    refine W.condF (congrArg Value.bool (decide_eq_false hc189)) ?_
                    refine W.skip ?_
                    exact ⟨hR, (EnvHas.cons rfl (EnvHas.cons rfl (EnvHas.cons rfl (EnvHas.cons rfl (EnvHas.cons rfl (EnvHas.cons rfl EnvHas.nil)))))), h188⟩
                ·
                  replace hR := ifF hR hc182
                  refine Plan.cmpV (a := (((out128.length : Nat) : Int) : Int)) (b := (0 : Int)) (p := 0 < out128.length) (v := false) rfl rfl rfl rfl icmp_gtN (decide_eq_false hc182) ?_
                  refine Plan.move_bool rfl rfl ?_
                  refine Plan.passed rfl ?_
                  refine Plan.passed rfl ?_
                  refine Plan.passed rfl ?_
                  refine Plan.passed rfl ?_
                  refine Plan.passed rfl ?_
                  refine Plan.passed rfl ?_
                  refine Plan.passed rfl ?_
                  refine Plan.passed rfl ?_
                  refine Plan.passed rfl ?_
                  refine Plan.pickFb rfl rfl rfl ?_
                  refine Plan.nil ?_
                  refine hK180 _ _ ?_; clear hK180
                  refine W.condF rfl ?_
                  refine W.skip ?_
                  exact ⟨hR, (EnvHas.cons rfl (EnvHas.cons rfl (EnvHas.cons rfl (EnvHas.cons rfl (EnvHas.cons rfl (EnvHas.cons rfl EnvHas.nil)))))), h181⟩
              ·
                rintro ev193 wl193 ⟨hy193_0, he193, h193⟩
                obtain ⟨ev193, rfl⟩ := he193.open
                replace hR := hR0179 hy193_0
                refine hK167 _ _ ?_; clear hK167
                refine W.seq_k fun K194 hK194 => ?_
                refine W.regionT [(0, true), (1, true), (2, false), (3, false), (4, true)] (by kernel_rfl) ?_
                refine Plan.move_slice rfl rfl ?_
                refine Plan.loadA h193 rfl rfl (.cons 0 rfl (.cons 1 rfl (.cons 2 rfl .nil))) FPack.agg25 ?_
                refine Plan.buildLO (D := (D25.at LP)) (sz := 3) h193 [(((ay0_1_148, cy0_1_149), (ay0_2_151, cy0_2_152)), ((x_143, x_144, x_145) : (Int × (List Byte) × (List Byte))))] FPack.slu22 FPack.sz25 FPack.zv25 (by decide) (by decide) rfl rfl rfl rfl (by exact (List.forall_mem_cons.2 ⟨⟨hp157, hp158⟩, (fun _ h => nomatch h)⟩)) (EffO.wait rfl) fun b196 w196 F196 hb196 ho196 h196 => ?_
                replace ho196 : LO (D25.at LP) [] (some ⟨b196, 0, none⟩) (some b196) ([(x_143, x_144, x_145)] : List (Int × (List Byte) × (List Byte))).length 1 F196 ([(x_143, x_144, x_145)] : List (Int × (List Byte) × (List Byte))) := ho196.re (fun _ _ h => h)
                obtain ⟨hc198, hR⟩ := hR
                refine Plan.appendLO (D := (D25.at LP)) (X := out128) (Y := ([(x_143, x_144, x_145)] : List (Int × (List Byte) × (List Byte)))) (sz := 3) h196 ((none, 0), (none, 0)) ((0 : Int), ([] : List Byte), ([] : List Byte)) 4 ho156 rfl FPack.el22 rfl FPack.slu22 rfl rfl rfl rfl (LO.lvf EL.at_flat ho196 0 rfl) (fun _ _ h => h) hc198.1 hc198.2 (fun _ => EffO.keep PIn.nil) fun a197 pb197 cap197 F197 w197 ho197 h197 => ?_
                simp only [List.cons_append, List.nil_append, List.set_cons_zero, List.set_cons_succ] at h197
                replace ho197 : LO (D25.at LP) [] a197 pb197 (out128 ++ ([(x_143, x_144, x_145)] : List (Int × (List Byte) × (List Byte)))).length cap197 F197 (out128 ++ ([(x_143, x_144, x_145)] : List (Int × (List Byte) × (List Byte)))) := ho197.re (fun _ _ h => h)
                refine Plan.assign_slice rfl rfl ?_
                refine Plan.nil ?_
                refine hK194 _ _ ?_; clear hK194
                refine W.regionT [(0, true), (1, true), (2, true), (3, true)] (by kernel_rfl) ?_
                refine Plan.move_slice rfl rfl ?_
                refine Plan.move_int rfl rfl ?_
                obtain ⟨hc199, hR⟩ := hR
                refine Plan.slV (lo := x_146) (hi := content127.length) hv155 FPack.sl23 rfl rfl ⟨_, rfl⟩ rfl hc199 fun a200 c200 hv200 => ?_
                refine Plan.assign_slice rfl rfl ?_
                refine Plan.nil ?_
                refine blockR_norm ?_
                refine hK140 _ _ ?_; clear hK140
                refine W.regionT [(0, true), (1, true)] (by kernel_rfl) ?_
                obtain ⟨hc201, hR⟩ := hR
                refine Plan.addN (a := t130) (b := 1) rfl rfl rfl (by omega) ?_
                refine Plan.move_int rfl rfl ?_
                refine Plan.nil ?_
                have h202 := St.pickT (C := [_, _, _, _, _]) h197 [4] (by decide)
                simp only [pick, List.filterMap_cons, List.filterMap_nil, List.getElem?_cons_zero, List.getElem?_cons_succ, List.cons_append, List.nil_append] at h202
                obtain ⟨CF203, hx203, hy203⟩ := hFj133
                exact iterR_norm ⟨_, hR, CF203, L, hx203, LP, hy203, L, rfl, LP, rfl, hLP, ix155, a200, c200, (out128 ++ ([(x_143, x_144, x_145)] : List (Int × (List Byte) × (List Byte)))).length, a197, pb197, cap197, F197, (EnvHas.cons rfl (EnvHas.cons rfl (EnvHas.cons rfl (EnvHas.cons rfl EnvHas.nil)))), h202, hv200, ho197⟩
          ·
            replace hR := ifF hR hc139
            refine W.condF (congrArg Value.bool (decide_eq_false hc139)) ?_
            refine W.exit (thenR_exit (iterR_exit (blockR_here ?_)))
            obtain ⟨CF204, hx204, hy204⟩ := hFj133
            exact ⟨content127, out128, (hx133 _ hR).symm, CF204, L, hx204, LP, hy204, L, rfl, LP, rfl, hLP, icontent127, acontent127, ccontent127, out128.length, aout128, pout128, cout128, Fout128, (EnvHas.cons rfl (EnvHas.cons rfl EnvHas.nil)), h135, hcontent127, hout128⟩
        ·
          rintro ev205 wl205 ⟨y_content131, y_out132, hy205, CG205, LG205, hlg205, QG205, hqg205, L, hLe205, LP, hQe205, hLPn205, icontent131, acontent131, ccontent131, n_out132, aout132, pout132, cout132, Fout132, he205, h205, hcontent131, hout132⟩
          obtain ⟨ev205, rfl⟩ := he205.open
          replace hR := hR0133 y_content131 y_out132 hy205
          obtain ⟨content131, e_content131⟩ : ∃ z, z = y_content131 := ⟨_, rfl⟩; subst e_content131
          obtain ⟨out132, e_out132⟩ : ∃ z, z = y_out132 := ⟨_, rfl⟩; subst e_out132
          obtain rfl : List.length (α := (Int × (List Byte) × (List Byte))) out132 = n_out132 := hout132.hl
          have hL205 := hLe205.trans hlg205
          have hQ205 := hQe205.trans hqg205
          replace hLP : ∀ r ∈ LP, r ∈ L := by rw [hQ205, hL205]; exact frMemGrow hLP
          replace hFr : Fr2 _ _ L LP := hFr.step hL205 hQ205
          replace hFj133 : Fr2 _ _ L LP := hFj133.step hL205 hQ205
          refine hK18 _ _ ?_; clear hK18
          refine W.seq_k fun K207 hK207 => ?_
          refine W.seq_k fun K208 hK208 => ?_
          refine W.regionT [(0, true), (1, false), (2, true)] (by kernel_rfl) ?_
          refine Plan.move_slice rfl rfl ?_
          obtain ⟨x_210, hr209, hR⟩ := hR
          refine Plan.call (vs := [.slice acontent131 content131.length ccontent131]) rfl FPack.call65 rfl (wire_Blank_ok (hcontent131.app [_]) hr209 h205) ?_
          rintro _ w211 ⟨rfl, h211⟩
          refine ⟨_, rfl, .inl ⟨PIn.keep PIn.nil h211, ?_⟩⟩
          refine Plan.not rfl rfl ?_
          refine Plan.nil ?_
          refine hK208 _ _ ?_; clear hK208
          by_cases hc212 : x_210 = true
          ·
            replace hR := ifT hR hc212
            refine W.condF (congrArg Value.bool (congrArg Bool.not hc212)) ?_
            refine W.skip ?_
            refine hK207 _ _ ?_; clear hK207
            refine W.seq_k fun K213 hK213 => ?_
            refine W.regionT [(0, true), (1, true), (2, true)] (by kernel_rfl) ?_
            refine Plan.move_slice rfl rfl ?_
            refine Plan.assign_slice rfl rfl ?_
            refine Plan.assign_int rfl rfl ?_
            refine Plan.nil ?_
            refine hK213 _ _ ?_; clear hK213
            refine W.ret (finR_ret ?_)
            subst r
            refine RetOk.mk (.tmp_slice rfl (.tmp_int rfl .nil)) ?_
            obtain ⟨CF, hx1, hx2⟩ := hFr
            simp only [List.append_nil] at hx2
            subst hx1
            subst hx2
            exact ⟨_, aout132, pout132, out132.length, cout132, Fout132, rfl, h211, hout132⟩
          ·
            replace hR := ifF hR hc212
            refine W.condT (congrArg Value.bool (congrArg Bool.not (Bool.eq_false_iff.2 hc212))) ?_
            refine W.seq_k fun K214 hK214 => ?_
            refine W.regionT [(0, true), (1, true)] (by kernel_rfl) ?_
            refine Plan.assign_slice rfl rfl ?_
            refine Plan.assign_int rfl rfl ?_
            refine Plan.nil ?_
            refine hK214 _ _ ?_; clear hK214
            refine W.ret (thenR_ret (finR_ret ?_))
            have h215 : St B w0 (⟨none, 0, 0 * 3, fun _ => undef, true⟩ :: _) _ := h211.nilE (fun _ => undef)
            have h216 := St.pickT (C := [_, _]) h215 [0] (by decide)
            simp only [pick, List.filterMap_cons, List.filterMap_nil, List.getElem?_cons_zero, List.getElem?_cons_succ, List.cons_append, List.nil_append] at h216
            subst r
            refine RetOk.mk (.tmp_slice rfl (.tmp_int rfl .nil)) ?_
            obtain ⟨CF, hx1, hx2⟩ := hFr
            simp only [List.append_nil] at hx2
            subst hx1
            subst hx2
            exact ⟨_, none, none, 0, 0, (fun _ => undef), rfl, h216, LO.nil⟩

end Go.Proofs.Ytbkgblhmlenocaa
