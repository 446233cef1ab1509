/-
  WALKS of the package's functions, printed by this session's own program (auto.py).
-/
import Derived.Test.YtbkgblhmlenocaaProg
import Derived.Test.YtbkgblhmlenocaaEd
import Derived.Test.YtbkgblhmlenocaaRNet
import Derived.Test.YtbkgblhmlenocaaEls
import Derived.Test.YtbkgblhmlenocaaLay
import Derived.Test.YtbkgblhmlenocaaWCmp
import Derived.Test.YtbkgblhmlenocaaWSlices
namespace Go.Proofs.Ytbkgblhmlenocaa
set_option linter.unusedSimpArgs false
set_option linter.unusedVariables false
set_option linter.unusedSectionVars false
open Go Go.LW
theorem FNet.key3 : KeyK Try.prog 3 kvI := KeyK.int (by kernel_rfl)
theorem FNet.pl127 : placesB Try.prog 127 [(0, 1), (1, 1), (2, 1), (3, 1)] = true := by kernel_rfl
theorem FNet.z127 : zeroIs Try.prog 127 [(1, fun _ => .int .i64 0), (1, fun _ => .int .i64 0), (1, fun _ => .map none), (1, fun _ => .int .i64 0)] := zeroIs_agg (by kernel_rfl)
theorem FNet.sc3 : scalarT Try.prog 3 = true := by kernel_rfl
theorem FNet.sc23 : scalarT Try.prog 23 = true := by kernel_rfl
theorem FNet.el23 : elD Try.prog 23 = some (1, 1, some (VU .u8 0#8)) := by kernel_rfl
theorem FNet.sl23 : slB Try.prog 23 1 = true := by kernel_rfl
theorem FNet.fld127_0 : fieldB Try.prog 127 0 0 = true := by kernel_rfl
theorem FNet.mixed : Try.prog.follows .mixedOrders = true := by kernel_rfl
theorem FNet.fld127_2 : fieldB Try.prog 127 2 2 = true := by kernel_rfl
theorem FNet.sc125 : scalarT Try.prog 125 = true := by kernel_rfl
theorem FNet.fld127_1 : fieldB Try.prog 127 1 1 = true := by kernel_rfl
theorem FNet.mapt125 : Try.prog.underlying 125 = some (.map 3 60) := by kernel_rfl
theorem FNet.fld127_3 : fieldB Try.prog 127 3 3 = true := by kernel_rfl
theorem FNet.call89 : callB Try.prog 89 = true := by kernel_rfl
theorem FNet.pl60 : placesB Try.prog 60 [(0, 1), (1, 1), (2, 1), (3, 1)] = true := by kernel_rfl
theorem FNet.z60 : zeroIs Try.prog 60 [(1, fun _ => .int .i64 0), (1, fun _ => .int .i64 0), (1, fun _ => .int .i64 0), (1, fun _ => .slice none 0 0)] := zeroIs_agg (by kernel_rfl)
theorem FNet.sz3 : szT Try.prog 3 1 = true := by kernel_rfl
theorem FNet.call66 : callB Try.prog 66 = true := by kernel_rfl
theorem FNet.agg60 : aggT Try.prog 60 4 = true := by kernel_rfl
theorem FNet.fld60_3 : fieldB Try.prog 60 3 3 = true := by kernel_rfl
theorem FNet.sz23 : szT Try.prog 23 1 = true := by kernel_rfl
theorem FNet.sz60 : szT Try.prog 60 4 = true := by kernel_rfl
theorem FNet.fld60_0 : fieldB Try.prog 60 0 0 = true := by kernel_rfl
theorem FNet.zv60 : (Try.prog.info? 60).bind (·.zero) = some (AG [(1, fun _ => .int .i64 0), (1, fun _ => .int .i64 0), (1, fun _ => .int .i64 0), (1, fun _ => .slice none 0 0)]) := by kernel_rfl
theorem FNet.slu57 : Try.prog.underlying 57 = some (.slice 60) := by kernel_rfl
theorem FNet.el57 : elD Try.prog 57 = some (4, 48, some (AG [(1, fun _ => .int .i64 0), (1, fun _ => .int .i64 0), (1, fun _ => .int .i64 0), (1, fun _ => .slice none 0 0)])) := by kernel_rfl
theorem FNet.zM60 : (Try.prog.info? 60).bind (·.zero) = some (D60.val (none, 0) ((0 : Int), (0 : Int), (0 : Int), ([] : List Byte))) := by kernel_rfl
theorem FNet.row60 : rowB Try.prog 60 = true := by kernel_rfl
theorem FNet.call34 : callB Try.prog 34 = true := by kernel_rfl
theorem FNet.fld60_1 : fieldB Try.prog 60 1 1 = true := by kernel_rfl
theorem FNet.fld60_2 : fieldB Try.prog 60 2 2 = true := by kernel_rfl
theorem FNet.call57 : callB Try.prog 57 = true := by kernel_rfl
theorem FNet.call67 : callB Try.prog 67 = true := by kernel_rfl

set_option maxRecDepth 8000 in
set_option maxHeartbeats 1000000 in
theorem net_New_ok {B : Nat} {w0 : Base} {w : World} {L : List Rg} {LP : List Rg} (hLP : ∀ r ∈ LP, r ∈ L) {nodes1 : Int} {most2 : Int} {r : Nat ⊕ (Int × Int × (List (Int × (Int × Int × Int × (List Byte)))) × Nat × Nat)} (hR : net_New nodes1 most2 r) (HST : St B w0 (L) w) :
    Calls Try.prog 29 #[.int .i64 nodes1, .int .i64 most2] w fun e w' => match r with | .inl z => ∃ C : List Rg, e = .returned (.tuple #[.pointer none, VN z]) ∧ St B w0 ((C ++ L)) w' | .inr z => ∃ C : List Rg, ∃ b0 : Nat, ∃ mw0_2 : Nat, e = .returned (.tuple #[.pointer (some ⟨b0, 0, none⟩), VN z.2.2.2.2]) ∧ St B (w0.on [mapR kvI (D60.at (C ++ LP)) [] mw0_2 z.2.2.1]) (⟨some b0, 0, 1, fun _ => .int .i64 z.1, true⟩ :: ⟨some b0, 1, 1, fun _ => .int .i64 z.2.1, true⟩ :: ⟨some b0, 2, 1, fun _ => .map (some mw0_2), true⟩ :: ⟨some b0, 3, 1, fun _ => VN z.2.2.2.1, true⟩ :: (C ++ L)) w' := by
  refine W.enter 25 Try.func29 rfl rfl rfl ?_
  unfold net_New at hR
  have hFr : Fr2 L LP L LP := Fr2.refl _ _
  refine W.seq_k fun K3 hK3 => ?_
  refine W.regionT [(0, true), (1, true)] (by kernel_rfl) ?_
  refine Plan.assign_ptr rfl rfl ?_
  refine Plan.assign_int rfl rfl ?_
  refine Plan.nil ?_
  refine hK3 _ _ ?_; clear hK3
  refine W.seq_k fun K4 hK4 => ?_
  refine W.seq_k fun K14 hK14 => ?_
  refine W.regionT [(0, true), (1, true), (2, true), (3, true), (4, true), (5, true), (6, true), (7, true), (8, true), (9, true), (10, true), (11, true), (12, true), (13, true)] (by kernel_rfl) ?_
  refine Plan.move_int rfl rfl ?_
  by_cases hc15 : nodes1 < 1
  ·
    replace hR := ifT hR hc15
    refine Plan.cmpV (a := (nodes1 : Int)) (b := (1 : Int)) (p := nodes1 < 1) (v := true) rfl rfl rfl rfl icmp_lt (decide_eq_true hc15) ?_
    refine Plan.move_bool rfl rfl ?_
    refine Plan.passed rfl ?_
    refine Plan.passed rfl ?_
    refine Plan.pickTb rfl rfl rfl ?_
    refine Plan.move_bool rfl rfl ?_
    refine Plan.passed rfl ?_
    refine Plan.passed rfl ?_
    refine Plan.pickTb rfl rfl rfl ?_
    refine Plan.move_bool rfl rfl ?_
    refine Plan.passed rfl ?_
    refine Plan.passed rfl ?_
    refine Plan.pickTb rfl rfl rfl ?_
    refine Plan.nil ?_
    refine hK14 _ _ ?_; clear hK14
    refine W.condT rfl ?_
    refine W.seq_k fun K16 hK16 => ?_
    refine W.regionT [(0, true), (1, true)] (by kernel_rfl) ?_
    refine Plan.assign_ptr rfl rfl ?_
    refine Plan.assign_int rfl rfl ?_
    refine Plan.nil ?_
    refine hK16 _ _ ?_; clear hK16
    refine W.ret (thenR_ret (finR_ret ?_))
    subst r
    refine RetOk.mk (.tmp_ptr rfl (.tmp_int rfl .nil)) ?_
    exact ⟨[], rfl, HST⟩
  ·
    replace hR := ifF hR hc15
    refine Plan.cmpV (a := (nodes1 : Int)) (b := (1 : Int)) (p := nodes1 < 1) (v := false) rfl rfl rfl rfl icmp_lt (decide_eq_false hc15) ?_
    refine Plan.move_bool rfl rfl ?_
    refine Plan.move_int rfl rfl ?_
    by_cases hc17 : 4 < nodes1
    ·
      replace hR := ifT hR hc17
      refine Plan.cmpV (a := (nodes1 : Int)) (b := (4 : Int)) (p := 4 < nodes1) (v := true) rfl rfl rfl rfl icmp_gt (decide_eq_true hc17) ?_
      refine Plan.pickFb rfl rfl rfl ?_
      refine Plan.move_bool rfl rfl ?_
      refine Plan.passed rfl ?_
      refine Plan.passed rfl ?_
      refine Plan.pickTb rfl rfl rfl ?_
      refine Plan.move_bool rfl rfl ?_
      refine Plan.passed rfl ?_
      refine Plan.passed rfl ?_
      refine Plan.pickTb rfl rfl rfl ?_
      refine Plan.nil ?_
      refine hK14 _ _ ?_; clear hK14
      refine W.condT rfl ?_
      refine W.seq_k fun K18 hK18 => ?_
      refine W.regionT [(0, true), (1, true)] (by kernel_rfl) ?_
      refine Plan.assign_ptr rfl rfl ?_
      refine Plan.assign_int rfl rfl ?_
      refine Plan.nil ?_
      refine hK18 _ _ ?_; clear hK18
      refine W.ret (thenR_ret (finR_ret ?_))
      subst r
      refine RetOk.mk (.tmp_ptr rfl (.tmp_int rfl .nil)) ?_
      exact ⟨[], rfl, HST⟩
    ·
      replace hR := ifF hR hc17
      refine Plan.cmpV (a := (nodes1 : Int)) (b := (4 : Int)) (p := 4 < nodes1) (v := false) rfl rfl rfl rfl icmp_gt (decide_eq_false hc17) ?_
      refine Plan.pickFb rfl rfl rfl ?_
      refine Plan.move_bool rfl rfl ?_
      refine Plan.move_int rfl rfl ?_
      by_cases hc19 : most2 < 0
      ·
        replace hR := ifT hR hc19
        refine Plan.cmpV (a := (most2 : Int)) (b := (0 : Int)) (p := most2 < 0) (v := true) rfl rfl rfl rfl icmp_lt (decide_eq_true hc19) ?_
        refine Plan.pickFb rfl rfl rfl ?_
        refine Plan.move_bool rfl rfl ?_
        refine Plan.passed rfl ?_
        refine Plan.passed rfl ?_
        refine Plan.pickTb rfl rfl rfl ?_
        refine Plan.nil ?_
        refine hK14 _ _ ?_; clear hK14
        refine W.condT rfl ?_
        refine W.seq_k fun K20 hK20 => ?_
        refine W.regionT [(0, true), (1, true)] (by kernel_rfl) ?_
        refine Plan.assign_ptr rfl rfl ?_
        refine Plan.assign_int rfl rfl ?_
        refine Plan.nil ?_
        refine hK20 _ _ ?_; clear hK20
        refine W.ret (thenR_ret (finR_ret ?_))
        subst r
        refine RetOk.mk (.tmp_ptr rfl (.tmp_int rfl .nil)) ?_
        exact ⟨[], rfl, HST⟩
      ·
        replace hR := ifF hR hc19
        refine Plan.cmpV (a := (most2 : Int)) (b := (0 : Int)) (p := most2 < 0) (v := false) rfl rfl rfl rfl icmp_lt (decide_eq_false hc19) ?_
        refine Plan.pickFb rfl rfl rfl ?_
        refine Plan.move_bool rfl rfl ?_
        refine Plan.move_int rfl rfl ?_
        refine Plan.cmpP (a := (most2 : Int)) (b := (4096 : Int)) (p := 4096 < most2) rfl rfl rfl rfl icmp_gt ?_
        refine Plan.pickFb rfl rfl rfl ?_
        refine Plan.nil ?_
        refine hK14 _ _ ?_; clear hK14
        by_cases hc21 : 4096 < most2
        ·
          replace hR := ifT hR hc21
          refine W.condT (congrArg Value.bool (decide_eq_true hc21)) ?_
          refine W.seq_k fun K22 hK22 => ?_
          refine W.regionT [(0, true), (1, true)] (by kernel_rfl) ?_
          refine Plan.assign_ptr rfl rfl ?_
          refine Plan.assign_int rfl rfl ?_
          refine Plan.nil ?_
          refine hK22 _ _ ?_; clear hK22
          refine W.ret (thenR_ret (finR_ret ?_))
          subst r
          refine RetOk.mk (.tmp_ptr rfl (.tmp_int rfl .nil)) ?_
          exact ⟨[], rfl, HST⟩
        ·
          replace hR := ifF hR hc21
          refine W.condF (congrArg Value.bool (decide_eq_false hc21)) ?_
          refine W.skip ?_
          refine hK4 _ _ ?_; clear hK4
          refine W.seq_k fun K23 hK23 => ?_
          refine W.regionT [(0, true), (1, true), (2, false), (3, true), (4, false), (5, true), (6, true)] (by kernel_rfl) ?_
          refine Plan.move_int rfl rfl ?_
          refine Plan.move_int rfl rfl ?_
          refine Plan.makeMap (w0 := w0) (N := []) kvI (D60.at LP) [] HST rfl (by exact (EffO.keep PIn.nil)) fun m24 w24 h24 => ?_
          refine Plan.buildP (ps := [(1, fun _ => .int .i64 nodes1), (1, fun _ => .int .i64 most2), (1, fun _ => .map (some m24)), (1, fun _ => VN 0)]) FNet.pl127 (by decide) FNet.z127 rfl rfl (.one [] [(1, fun _ => VN 0), (1, fun _ => .map none), (1, fun _ => VN 0)] (fun _ => VN 0) rfl rfl (.one [(1, fun _ => .int .i64 nodes1)] [(1, fun _ => .map none), (1, fun _ => VN 0)] (fun _ => VN 0) rfl rfl (.one [(1, fun _ => .int .i64 nodes1), (1, fun _ => .int .i64 most2)] [(1, fun _ => VN 0)] (fun _ => .map none) rfl rfl .nil))) ?_
          refine Plan.boxA h24 rfl rfl PIn.nil fun b25 w25 hb25 h25 => ?_
          simp only [rngs, Nat.zero_add, Nat.reduceAdd, List.cons_append, List.nil_append] at h25
          refine Plan.assign_ptr rfl rfl ?_
          refine Plan.assign_int rfl rfl ?_
          refine Plan.nil ?_
          refine hK23 _ _ ?_; clear hK23
          refine W.ret (finR_ret ?_)
          subst r
          refine RetOk.mk (.tmp_ptr rfl (.tmp_int rfl .nil)) ?_
          exact ⟨[], b25, m24, rfl, h25⟩


set_option maxRecDepth 8000 in
set_option maxHeartbeats 1000000 in
theorem net_Net_begin_ok {B : Nat} {w0 : Base} {w : World} {L : List Rg} {LP : List Rg} (hLP : ∀ r ∈ LP, r ∈ L) {bn_1 : Nat} {nnodes2 : Int} {nmost3 : Int} {nflights4 : List (Int × (Int × Int × Int × (List Byte)))} {mnflights4 : Nat} {nnext5 : Int} {from_6 : Int} {to7 : Int} {b8 : List Byte} {ab8 : Option Addr} {nb8 cb8 ib8 : Nat} (hb8 : Bx L ib8 ab8 nb8 cb8 b8) {r : (Int × Nat × Int × (List (Int × (Int × Int × Int × (List Byte)))))} (hR : net_Net_begin nnodes2 nmost3 nflights4 nnext5 from_6 to7 b8 r) (HST : St B (w0.on [mapR kvI (D60.at LP) [] mnflights4 nflights4]) (⟨some bn_1, 0, 1, fun _ => .int .i64 nnodes2, true⟩ :: ⟨some bn_1, 1, 1, fun _ => .int .i64 nmost3, true⟩ :: ⟨some bn_1, 2, 1, fun _ => .map (some mnflights4), true⟩ :: ⟨some bn_1, 3, 1, fun _ => .int .i64 nnext5, true⟩ :: L) w) :
    Calls Try.prog 66 #[.pointer (some ⟨bn_1, 0, none⟩), .int .i64 from_6, .int .i64 to7, .slice ab8 nb8 cb8] w fun e w' => ∃ C : List Rg, e = .returned (.tuple #[.int .i64 r.1, VN r.2.1]) ∧ St B (w0.on [mapR kvI (D60.at (C ++ LP)) [] mnflights4 r.2.2.2]) (⟨some bn_1, 0, 1, fun _ => .int .i64 nnodes2, true⟩ :: ⟨some bn_1, 1, 1, fun _ => .int .i64 nmost3, true⟩ :: ⟨some bn_1, 2, 1, fun _ => .map (some mnflights4), true⟩ :: ⟨some bn_1, 3, 1, fun _ => .int .i64 r.2.2.1, true⟩ :: (C ++ L)) w' := by
  refine W.enter 44 Try.func66 rfl rfl rfl ?_
  unfold net_Net_begin at hR
  have hFr : Fr2 L LP L LP := Fr2.refl _ _
  have eb8 := hb8.hl; subst eb8
  refine W.seq_k fun K9 hK9 => ?_
  refine W.regionT [(0, true), (1, true)] (by kernel_rfl) ?_
  refine Plan.assign_int rfl rfl ?_
  refine Plan.assign_int rfl rfl ?_
  refine Plan.nil ?_
  refine hK9 _ _ ?_; clear hK9
  refine W.seq_k fun K10 hK10 => ?_
  refine W.seq_k fun K11 hK11 => ?_
  refine W.regionD FNet.mixed [(0, true), (1, true), (2, true), (3, true), (5, true), (6, true), (7, true), (8, true), (4, false), (9, true)] (by kernel_rfl) ?_
  have h12 := HST.drew
  refine Plan.move_ptr rfl rfl ?_
  refine Plan.nilCheck rfl rfl ?_
  refine Plan.fieldAddr 2 FNet.fld127_2 rfl rfl ?_
  refine Plan.load0 h12 2 rfl rfl rfl (by omega) FNet.sc125 ?_
  refine Plan.move_ptr rfl rfl ?_
  refine Plan.nilCheck rfl rfl ?_
  refine Plan.fieldAddr 1 FNet.fld127_1 rfl rfl ?_
  refine Plan.load0 h12 1 rfl rfl rfl (by omega) FNet.sc3 ?_
  refine Plan.lenM (w0 := w0) (N := [mapR kvI (D60.at LP) [] mnflights4 nflights4]) h12 0 FNet.mapt125 rfl rfl rfl (by exact (EffO.mix _ (Filt.keep rfl (Filt.drop rfl Filt.nil)) (PIn.cons 1 rfl PIn.nil))) fun w13 h13 => ?_
  refine Plan.cmpP (a := (((nflights4.length : Nat) : Int) : Int)) (b := (nmost3 : Int)) (p := nmost3 ≤ ((nflights4.length : Nat) : Int)) rfl rfl rfl rfl icmp_ge ?_
  refine Plan.nil ?_
  refine hK11 _ _ ?_; clear hK11
  by_cases hc14 : nmost3 ≤ ((nflights4.length : Nat) : Int)
  ·
    replace hR := ifT hR hc14
    refine W.condT (congrArg Value.bool (decide_eq_true hc14)) ?_
    refine W.seq_k fun K15 hK15 => ?_
    refine W.regionT [(0, true), (1, true)] (by kernel_rfl) ?_
    refine Plan.assign_int rfl rfl ?_
    refine Plan.assign_int rfl rfl ?_
    refine Plan.nil ?_
    refine hK15 _ _ ?_; clear hK15
    refine W.ret (thenR_ret (finR_ret ?_))
    subst r
    refine RetOk.mk (.tmp_int rfl (.tmp_int rfl .nil)) ?_
    exact ⟨[], rfl, h13⟩
  ·
    replace hR := ifF hR hc14
    refine W.condF (congrArg Value.bool (decide_eq_false hc14)) ?_
    refine W.skip ?_
    refine hK10 _ _ ?_; clear hK10
    refine W.seq_k fun K16 hK16 => ?_
    refine W.regionT [(0, true), (1, true), (2, true), (3, true), (4, true)] (by kernel_rfl) ?_
    refine Plan.move_ptr rfl rfl ?_
    refine Plan.nilCheck rfl rfl ?_
    refine Plan.fieldAddr 3 FNet.fld127_3 rfl rfl ?_
    refine Plan.load0 h13 3 rfl rfl rfl (by omega) FNet.sc3 ?_
    refine Plan.assign_int rfl rfl ?_
    refine Plan.nil ?_
    refine hK16 _ _ ?_; clear hK16
    refine W.seq_k fun K17 hK17 => ?_
    refine W.regionD FNet.mixed [(0, true), (1, true), (2, true), (3, true), (4, true), (5, true), (6, true), (7, true), (8, true), (9, false), (10, true), (11, false)] (by kernel_rfl) ?_
    have h18 := h13.drew
    refine Plan.move_ptr rfl rfl ?_
    refine Plan.nilCheck rfl rfl ?_
    refine Plan.fieldAddr 2 FNet.fld127_2 rfl rfl ?_
    refine Plan.load0 h18 2 rfl rfl rfl (by omega) FNet.sc125 ?_
    refine Plan.move_int rfl rfl ?_
    refine Plan.move_int rfl rfl ?_
    refine Plan.move_int rfl rfl ?_
    refine Plan.move_int rfl rfl ?_
    refine Plan.move_slice rfl rfl ?_
    obtain ⟨x_20, hr19, hR⟩ := hR
    refine Plan.call (vs := [.slice ab8 b8.length cb8]) rfl FNet.call89 rfl (slices_Clone_byte_byte_ok (hb8.app [_, _, _, _]) hr19 h18) ?_
    rintro _ w26 ⟨ay0_21, py0_22, ny0_23, cy0_24, Fy0_25, rfl, h26, hf26_0⟩
    obtain rfl := hf26_0.hl
    refine ⟨_, rfl, .inl ⟨PIn.keep (PIn.cons 3 rfl PIn.nil) h26, ?_⟩⟩
    refine Plan.buildP (ps := [(1, fun _ => .int .i64 nnext5), (1, fun _ => .int .i64 from_6), (1, fun _ => .int .i64 to7), (1, fun _ => .slice ay0_21 x_20.length cy0_24)]) FNet.pl60 (by decide) FNet.z60 rfl rfl (.one [] [(1, fun _ => VN 0), (1, fun _ => VN 0), (1, fun _ => .slice none 0 0)] (fun _ => VN 0) rfl rfl (.one [(1, fun _ => .int .i64 nnext5)] [(1, fun _ => VN 0), (1, fun _ => .slice none 0 0)] (fun _ => VN 0) rfl rfl (.one [(1, fun _ => .int .i64 nnext5), (1, fun _ => .int .i64 from_6)] [(1, fun _ => .slice none 0 0)] (fun _ => VN 0) rfl rfl (.one [(1, fun _ => .int .i64 nnext5), (1, fun _ => .int .i64 from_6), (1, fun _ => .int .i64 to7)] [] (fun _ => .slice none 0 0) rfl rfl .nil)))) ?_
    have h28 := St.pickT (C := [_, _, _, _, _]) h26 [1, 2, 3, 4, 0] (by decide)
    simp only [pick, List.filterMap_cons, List.filterMap_nil, List.getElem?_cons_zero, List.getElem?_cons_succ, List.cons_append, List.nil_append] at h28
    obtain ⟨L, hL29⟩ : ∃ X, X = [⟨py0_22, 0, cy0_24, fun q => VU .u8 (Fy0_25 q), true⟩] ++ L := ⟨_, rfl⟩
    obtain ⟨LP, hQ29⟩ : ∃ X, X = [⟨py0_22, 0, cy0_24, fun q => VU .u8 (Fy0_25 q), true⟩] ++ LP := ⟨_, rfl⟩
    replace hLP : ∀ r ∈ LP, r ∈ L := by rw [hQ29, hL29]; exact frMemGrow hLP
    have h29 := St.re (N := [_, _, _, _]) hL29 h28
    simp only [List.cons_append, List.nil_append] at h29
    replace hFr : Fr2 _ _ L LP := hFr.step hL29 hQ29
    obtain ⟨ix30, hv30⟩ : ∃ i, Bx L i ab8 b8.length cb8 b8 := ⟨_, by rw [hL29]; exact hb8.app _⟩
    have h31 := St.liftM (LP' := LP) h29 (i := 0) rfl D60_lifts (fun r hr => by rw [hQ29]; exact List.mem_append_right _ hr)
    simp only [List.set_cons_zero, List.set_cons_succ] at h31
    obtain ⟨ix32, hv32⟩ : ∃ i, Bx L i ay0_21 x_20.length cy0_24 x_20 := ⟨_, by rw [hL29]; exact (hf26_0.bx 0 rfl)⟩
    have hp32 : ∃ i, Bx LP i ay0_21 x_20.length cy0_24 x_20 := ⟨_, by rw [hQ29]; exact (hf26_0.bx 0 rfl)⟩
    refine Plan.updM (w0 := w0) (D := (D60.at LP)) (N := [mapR kvI (D60.at LP) [] mnflights4 nflights4]) (X := nflights4) (k := nnext5) h31 0 FNet.key3 FNet.mapt125 rfl (ay0_21, cy0_24) (nnext5, from_6, to7, x_20) hp32 rfl rfl rfl rfl (by exact (EffO.wait rfl)) fun w27 h27 => ?_
    simp only [List.set_cons_zero, List.set_cons_succ] at h27
    refine Plan.nil ?_
    refine hK17 _ _ ?_; clear hK17
    refine W.seq_k fun K33 hK33 => ?_
    refine W.regionT [(0, true), (1, true), (2, true), (3, true), (4, true), (5, true), (6, true), (7, false)] (by kernel_rfl) ?_
    refine Plan.move_ptr rfl rfl ?_
    refine Plan.nilCheck rfl rfl ?_
    refine Plan.fieldAddr 3 FNet.fld127_3 rfl rfl ?_
    refine Plan.load0 h27 3 rfl rfl rfl (by omega) FNet.sc3 ?_
    obtain ⟨hc34, hR⟩ := hR
    refine Plan.addI (a := nnext5) (b := 1) rfl rfl rfl (by omega) ?_
    refine Plan.nilCheck rfl rfl ?_
    refine Plan.fieldAddr 3 FNet.fld127_3 rfl rfl ?_
    refine Plan.storeC_int h27 3 rfl rfl rfl rfl FNet.sz3 rfl fun w35 h35 => ?_
    simp only [List.cons_append, List.nil_append, List.set_cons_zero, List.set_cons_succ] at h35
    refine Plan.nil ?_
    refine hK33 _ _ ?_; clear hK33
    refine W.seq_k fun K36 hK36 => ?_
    refine W.regionT [(0, true), (1, true), (2, true)] (by kernel_rfl) ?_
    refine Plan.move_int rfl rfl ?_
    refine Plan.assign_int rfl rfl ?_
    refine Plan.assign_int rfl rfl ?_
    refine Plan.nil ?_
    refine hK36 _ _ ?_; clear hK36
    refine W.ret (finR_ret ?_)
    subst r
    refine RetOk.mk (.tmp_int rfl (.tmp_int rfl .nil)) ?_
    obtain ⟨CF, hx1, hx2⟩ := hFr
    subst hx1
    subst hx2
    exact ⟨_, rfl, h35⟩


set_option maxRecDepth 8000 in
set_option maxHeartbeats 1000000 in
theorem net_Net_Send_ok {B : Nat} {w0 : Base} {w : World} {L : List Rg} {LP : List Rg} (hLP : ∀ r ∈ LP, r ∈ L) {bn_1 : Nat} {nnodes2 : Int} {nmost3 : Int} {nflights4 : List (Int × (Int × Int × Int × (List Byte)))} {mnflights4 : Nat} {nnext5 : Int} {from_6 : Int} {to7 : Int} {b8 : List Byte} {ab8 : Option Addr} {nb8 cb8 ib8 : Nat} (hb8 : Bx L ib8 ab8 nb8 cb8 b8) {r : (Int × Nat × Int × (List (Int × (Int × Int × Int × (List Byte)))))} (hR : net_Net_Send nnodes2 nmost3 nflights4 nnext5 from_6 to7 b8 r) (HST : St B (w0.on [mapR kvI (D60.at LP) [] mnflights4 nflights4]) (⟨some bn_1, 0, 1, fun _ => .int .i64 nnodes2, true⟩ :: ⟨some bn_1, 1, 1, fun _ => .int .i64 nmost3, true⟩ :: ⟨some bn_1, 2, 1, fun _ => .map (some mnflights4), true⟩ :: ⟨some bn_1, 3, 1, fun _ => .int .i64 nnext5, true⟩ :: L) w) :
    Calls Try.prog 30 #[.pointer (some ⟨bn_1, 0, none⟩), .int .i64 from_6, .int .i64 to7, .slice ab8 nb8 cb8] w fun e w' => ∃ C : List Rg, e = .returned (.tuple #[.int .i64 r.1, VN r.2.1]) ∧ St B (w0.on [mapR kvI (D60.at (C ++ LP)) [] mnflights4 r.2.2.2]) (⟨some bn_1, 0, 1, fun _ => .int .i64 nnodes2, true⟩ :: ⟨some bn_1, 1, 1, fun _ => .int .i64 nmost3, true⟩ :: ⟨some bn_1, 2, 1, fun _ => .map (some mnflights4), true⟩ :: ⟨some bn_1, 3, 1, fun _ => .int .i64 r.2.2.1, true⟩ :: (C ++ L)) w' := by
  refine W.enter 39 Try.func30 rfl rfl rfl ?_
  unfold net_Net_Send at hR
  have hFr : Fr2 L LP L LP := Fr2.refl _ _
  have eb8 := hb8.hl; subst eb8
  refine W.seq_k fun K9 hK9 => ?_
  refine W.regionT [(0, true), (1, true)] (by kernel_rfl) ?_
  refine Plan.assign_int rfl rfl ?_
  refine Plan.assign_int rfl rfl ?_
  refine Plan.nil ?_
  refine hK9 _ _ ?_; clear hK9
  refine W.seq_k fun K10 hK10 => ?_
  refine W.seq_k fun K20 hK20 => ?_
  refine W.regionT [(0, true), (1, true), (2, true), (3, true), (4, true), (5, true), (6, true), (7, true), (8, true), (9, true), (10, true), (11, true), (12, true), (13, true), (14, true), (15, true), (16, true), (17, true), (18, true), (19, true), (20, true), (21, true)] (by kernel_rfl) ?_
  refine Plan.move_int rfl rfl ?_
  by_cases hc21 : from_6 < 1
  ·
    replace hR := ifT hR hc21
    refine Plan.cmpV (a := (from_6 : Int)) (b := (1 : Int)) (p := from_6 < 1) (v := true) rfl rfl rfl rfl icmp_lt (decide_eq_true hc21) ?_
    refine Plan.move_bool rfl rfl ?_
    refine Plan.passed rfl ?_
    refine Plan.passed rfl ?_
    refine Plan.passed rfl ?_
    refine Plan.passed rfl ?_
    refine Plan.passed rfl ?_
    refine Plan.passed rfl ?_
    refine Plan.pickTb rfl rfl rfl ?_
    refine Plan.move_bool rfl rfl ?_
    refine Plan.passed rfl ?_
    refine Plan.passed rfl ?_
    refine Plan.pickTb rfl rfl rfl ?_
    refine Plan.move_bool rfl rfl ?_
    refine Plan.passed rfl ?_
    refine Plan.passed rfl ?_
    refine Plan.passed rfl ?_
    refine Plan.passed rfl ?_
    refine Plan.passed rfl ?_
    refine Plan.passed rfl ?_
    refine Plan.pickTb rfl rfl rfl ?_
    refine Plan.nil ?_
    refine hK20 _ _ ?_; clear hK20
    refine W.condT rfl ?_
    refine W.seq_k fun K22 hK22 => ?_
    refine W.regionT [(0, true), (1, true)] (by kernel_rfl) ?_
    refine Plan.assign_int rfl rfl ?_
    refine Plan.assign_int rfl rfl ?_
    refine Plan.nil ?_
    refine hK22 _ _ ?_; clear hK22
    refine W.ret (thenR_ret (finR_ret ?_))
    subst r
    refine RetOk.mk (.tmp_int rfl (.tmp_int rfl .nil)) ?_
    exact ⟨[], rfl, HST⟩
  ·
    replace hR := ifF hR hc21
    refine Plan.cmpV (a := (from_6 : Int)) (b := (1 : Int)) (p := from_6 < 1) (v := false) rfl rfl rfl rfl icmp_lt (decide_eq_false hc21) ?_
    refine Plan.move_bool rfl rfl ?_
    refine Plan.move_int rfl rfl ?_
    refine Plan.move_ptr rfl rfl ?_
    refine Plan.nilCheck rfl rfl ?_
    refine Plan.fieldAddr0 FNet.fld127_0 rfl rfl ?_
    refine Plan.load0 HST 0 rfl rfl rfl (by omega) FNet.sc3 ?_
    by_cases hc23 : nnodes2 < from_6
    ·
      replace hR := ifT hR hc23
      refine Plan.cmpV (a := (from_6 : Int)) (b := (nnodes2 : Int)) (p := nnodes2 < from_6) (v := true) rfl rfl rfl rfl icmp_gt (decide_eq_true hc23) ?_
      refine Plan.pickFb rfl rfl rfl ?_
      refine Plan.move_bool rfl rfl ?_
      refine Plan.passed rfl ?_
      refine Plan.passed rfl ?_
      refine Plan.pickTb rfl rfl rfl ?_
      refine Plan.move_bool rfl rfl ?_
      refine Plan.passed rfl ?_
      refine Plan.passed rfl ?_
      refine Plan.passed rfl ?_
      refine Plan.passed rfl ?_
      refine Plan.passed rfl ?_
      refine Plan.passed rfl ?_
      refine Plan.pickTb rfl rfl rfl ?_
      refine Plan.nil ?_
      refine hK20 _ _ ?_; clear hK20
      refine W.condT rfl ?_
      refine W.seq_k fun K24 hK24 => ?_
      refine W.regionT [(0, true), (1, true)] (by kernel_rfl) ?_
      refine Plan.assign_int rfl rfl ?_
      refine Plan.assign_int rfl rfl ?_
      refine Plan.nil ?_
      refine hK24 _ _ ?_; clear hK24
      refine W.ret (thenR_ret (finR_ret ?_))
      subst r
      refine RetOk.mk (.tmp_int rfl (.tmp_int rfl .nil)) ?_
      exact ⟨[], rfl, HST⟩
    ·
      replace hR := ifF hR hc23
      refine Plan.cmpV (a := (from_6 : Int)) (b := (nnodes2 : Int)) (p := nnodes2 < from_6) (v := false) rfl rfl rfl rfl icmp_gt (decide_eq_false hc23) ?_
      refine Plan.pickFb rfl rfl rfl ?_
      refine Plan.move_bool rfl rfl ?_
      refine Plan.move_int rfl rfl ?_
      by_cases hc25 : to7 < 1
      ·
        replace hR := ifT hR hc25
        refine Plan.cmpV (a := (to7 : Int)) (b := (1 : Int)) (p := to7 < 1) (v := true) rfl rfl rfl rfl icmp_lt (decide_eq_true hc25) ?_
        refine Plan.pickFb rfl rfl rfl ?_
        refine Plan.move_bool rfl rfl ?_
        refine Plan.passed rfl ?_
        refine Plan.passed rfl ?_
        refine Plan.passed rfl ?_
        refine Plan.passed rfl ?_
        refine Plan.passed rfl ?_
        refine Plan.passed rfl ?_
        refine Plan.pickTb rfl rfl rfl ?_
        refine Plan.nil ?_
        refine hK20 _ _ ?_; clear hK20
        refine W.condT rfl ?_
        refine W.seq_k fun K26 hK26 => ?_
        refine W.regionT [(0, true), (1, true)] (by kernel_rfl) ?_
        refine Plan.assign_int rfl rfl ?_
        refine Plan.assign_int rfl rfl ?_
        refine Plan.nil ?_
        refine hK26 _ _ ?_; clear hK26
        refine W.ret (thenR_ret (finR_ret ?_))
        subst r
        refine RetOk.mk (.tmp_int rfl (.tmp_int rfl .nil)) ?_
        exact ⟨[], rfl, HST⟩
      ·
        replace hR := ifF hR hc25
        refine Plan.cmpV (a := (to7 : Int)) (b := (1 : Int)) (p := to7 < 1) (v := false) rfl rfl rfl rfl icmp_lt (decide_eq_false hc25) ?_
        refine Plan.pickFb rfl rfl rfl ?_
        refine Plan.move_bool rfl rfl ?_
        refine Plan.move_int rfl rfl ?_
        refine Plan.move_ptr rfl rfl ?_
        refine Plan.nilCheck rfl rfl ?_
        refine Plan.fieldAddr0 FNet.fld127_0 rfl rfl ?_
        refine Plan.load0 HST 0 rfl rfl rfl (by omega) FNet.sc3 ?_
        refine Plan.cmpP (a := (to7 : Int)) (b := (nnodes2 : Int)) (p := nnodes2 < to7) rfl rfl rfl rfl icmp_gt ?_
        refine Plan.pickFb rfl rfl rfl ?_
        refine Plan.nil ?_
        refine hK20 _ _ ?_; clear hK20
        by_cases hc27 : nnodes2 < to7
        ·
          replace hR := ifT hR hc27
          refine W.condT (congrArg Value.bool (decide_eq_true hc27)) ?_
          refine W.seq_k fun K28 hK28 => ?_
          refine W.regionT [(0, true), (1, true)] (by kernel_rfl) ?_
          refine Plan.assign_int rfl rfl ?_
          refine Plan.assign_int rfl rfl ?_
          refine Plan.nil ?_
          refine hK28 _ _ ?_; clear hK28
          refine W.ret (thenR_ret (finR_ret ?_))
          subst r
          refine RetOk.mk (.tmp_int rfl (.tmp_int rfl .nil)) ?_
          exact ⟨[], rfl, HST⟩
        ·
          replace hR := ifF hR hc27
          refine W.condF (congrArg Value.bool (decide_eq_false hc27)) ?_
          refine W.skip ?_
          refine hK10 _ _ ?_; clear hK10
          refine W.seq_k fun K29 hK29 => ?_
          refine W.regionT [(0, true), (1, true), (2, true), (3, true), (4, false), (5, true), (6, true), (7, true), (8, true)] (by kernel_rfl) ?_
          refine Plan.move_ptr rfl rfl ?_
          refine Plan.move_int rfl rfl ?_
          refine Plan.move_int rfl rfl ?_
          refine Plan.move_slice rfl rfl ?_
          obtain ⟨x_31, x_32, x_33, x_34, hr30, hR⟩ := hR
          refine Plan.call (vs := [.pointer (some ⟨bn_1, 0, none⟩), .int .i64 from_6, .int .i64 to7, .slice ab8 b8.length cb8]) rfl FNet.call66 rfl (net_Net_begin_ok (w0 := w0) (LP := LP) (by exact fun r hr => List.mem_append_right [] (hLP r hr)) hb8 hr30 (show St B (w0.on [mapR kvI (D60.at LP) [] mnflights4 nflights4]) _ _ from HST)) ?_
          rintro _ w35 ⟨C35, rfl, h35⟩
          replace h35 : St B (w0.on [mapR kvI (D60.at (C35 ++ LP)) [] mnflights4 x_34]) _ _ := h35
          replace h35 := St.pool (N := [_, _, _, _]) (R := []) h35
          obtain ⟨L, hL36⟩ : ∃ X, X = C35 ++ L := ⟨_, rfl⟩
          obtain ⟨LP, hQ36⟩ : ∃ X, X = C35 ++ LP := ⟨_, rfl⟩
          replace hLP : ∀ r ∈ LP, r ∈ L := by rw [hQ36, hL36]; exact frMemGrow hLP
          have h36 := St.re (N := [_, _, _, _]) hL36 h35
          simp only [List.cons_append, List.nil_append] at h36
          replace hFr : Fr2 _ _ L LP := hFr.step hL36 hQ36
          obtain ⟨ix37, hv37⟩ : ∃ i, Bx L i ab8 b8.length cb8 b8 := ⟨_, by rw [hL36]; exact hb8.app _⟩
          have h39 := St.eqM (A' := LP) h36 (i := 0) rfl hQ36
          simp only [List.set_cons_zero, List.set_cons_succ] at h39
          refine ⟨_, rfl, .inl ⟨PIn.keep PIn.nil h39, ?_⟩⟩
          refine Plan.extract_int rfl rfl rfl ?_
          refine Plan.extract_int rfl rfl rfl ?_
          refine Plan.assign_int rfl rfl ?_
          refine Plan.assign_int rfl rfl ?_
          refine Plan.nil ?_
          refine hK29 _ _ ?_; clear hK29
          refine W.ret (finR_ret ?_)
          subst r
          refine RetOk.mk (.tmp_int rfl (.tmp_int rfl .nil)) ?_
          obtain ⟨CF, hx1, hx2⟩ := hFr
          subst hx1
          subst hx2
          exact ⟨_, rfl, h39⟩


set_option maxRecDepth 8000 in
set_option maxHeartbeats 1000000 in
theorem net_Net_Deliver_ok {B : Nat} {w0 : Base} {w : World} {L : List Rg} {LP : List Rg} (hLP : ∀ r ∈ LP, r ∈ L) {bn_1 : Nat} {nnodes2 : Int} {nmost3 : Int} {nflights4 : List (Int × (Int × Int × Int × (List Byte)))} {mnflights4 : Nat} {nnext5 : Int} {k6 : Int} {r : (Int × Int × Int × (List Byte) × Nat × (List (Int × (Int × Int × Int × (List Byte)))))} (hR : net_Net_Deliver nnodes2 nmost3 nflights4 nnext5 k6 r) (HST : St B (w0.on [mapR kvI (D60.at LP) [] mnflights4 nflights4]) (⟨some bn_1, 0, 1, fun _ => .int .i64 nnodes2, true⟩ :: ⟨some bn_1, 1, 1, fun _ => .int .i64 nmost3, true⟩ :: ⟨some bn_1, 2, 1, fun _ => .map (some mnflights4), true⟩ :: ⟨some bn_1, 3, 1, fun _ => .int .i64 nnext5, true⟩ :: L) w) :
    Calls Try.prog 34 #[.pointer (some ⟨bn_1, 0, none⟩), .int .i64 k6] w fun e w' => ∃ C : List Rg, ∃ iy0_3 : Nat, ∃ ay0_3 : Option Addr, ∃ cy0_3 : Nat, e = .returned (.tuple #[AG [(1, fun _ => .int .i64 r.1), (1, fun _ => .int .i64 r.2.1), (1, fun _ => .int .i64 r.2.2.1), (1, fun _ => .slice ay0_3 r.2.2.2.1.length cy0_3)], VN r.2.2.2.2.1]) ∧ St B (w0.on [mapR kvI (D60.at (C ++ LP)) [] mnflights4 r.2.2.2.2.2]) (⟨some bn_1, 0, 1, fun _ => .int .i64 nnodes2, true⟩ :: ⟨some bn_1, 1, 1, fun _ => .int .i64 nmost3, true⟩ :: ⟨some bn_1, 2, 1, fun _ => .map (some mnflights4), true⟩ :: ⟨some bn_1, 3, 1, fun _ => .int .i64 nnext5, true⟩ :: (C ++ L)) w' ∧ Bx (C ++ LP) iy0_3 ay0_3 r.2.2.2.1.length cy0_3 r.2.2.2.1 := by
  refine W.enter 26 Try.func34 rfl rfl rfl ?_
  unfold net_Net_Deliver at hR
  have hFr : Fr2 L LP L LP := Fr2.refl _ _
  refine W.seq_k fun K7 hK7 => ?_
  refine W.regionT [(0, false), (1, true)] (by kernel_rfl) ?_
  refine Plan.alloc HST rfl FNet.z60 PIn.nil fun b8 w8 hb8 h8 => ?_
  simp only [rngs, Nat.zero_add, Nat.reduceAdd, List.cons_append, List.nil_append] at h8
  refine Plan.assign_int rfl rfl ?_
  refine Plan.nil ?_
  refine hK7 _ _ ?_; clear hK7
  refine W.seq_k fun K9 hK9 => ?_
  refine W.regionT [(0, true), (1, true), (2, true), (3, true), (4, true), (5, false), (6, true), (7, true), (8, true), (9, false), (10, false), (11, true)] (by kernel_rfl) ?_
  refine Plan.move_ptr rfl rfl ?_
  refine Plan.nilCheck rfl rfl ?_
  refine Plan.fieldAddr 2 FNet.fld127_2 rfl rfl ?_
  refine Plan.load0 h8 6 rfl rfl rfl (by omega) FNet.sc125 ?_
  refine Plan.move_int rfl rfl ?_
  refine Plan.lookupM (w0 := w0) (D := (D60.at LP)) (N := [mapR kvI (D60.at LP) [] mnflights4 nflights4]) (X := nflights4) (k := k6) h8 0 FNet.key3 FNet.mapt125 rfl (none, 0) ((0 : Int), (0 : Int), (0 : Int), ([] : List Byte)) FNet.zM60 ⟨0, Bx.nil 0⟩ rfl rfl rfl (by exact (EffO.wait rfl)) fun b10 w10 hs10 h10 => ?_
  obtain ⟨i10_3, hv10_3⟩ := hs10
  have hp10_3 : ∃ i, Bx LP i _ _ _ _ := ⟨_, hv10_3⟩
  obtain ⟨i10_3, hv10_3⟩ := Bx.lift hv10_3 hLP
  refine Plan.move_tuple rfl rfl ?_
  refine Plan.extract_agg rfl rfl rfl ?_
  refine Plan.extract_bool rfl rfl rfl ?_
  refine Plan.alloc h10 rfl FNet.z60 PIn.nil fun b11 w11 hb11 h11 => ?_
  simp only [rngs, Nat.zero_add, Nat.reduceAdd, List.cons_append, List.nil_append] at h11
  refine Plan.storeP (ps := [(1, fun _ => .int .i64 (((mget k6 nflights4).getD ((0 : Int), (0 : Int), (0 : Int), ([] : List Byte))).1)), (1, fun _ => .int .i64 (((mget k6 nflights4).getD ((0 : Int), (0 : Int), (0 : Int), ([] : List Byte))).2.1)), (1, fun _ => .int .i64 (((mget k6 nflights4).getD ((0 : Int), (0 : Int), (0 : Int), ([] : List Byte))).2.2.1)), (1, fun _ => .slice ((b10).1) ((((mget k6 nflights4).getD ((0 : Int), (0 : Int), (0 : Int), ([] : List Byte))).2.2.2).length) ((b10).2))]) h11 rfl rfl rfl (.cons 0 rfl (.cons 1 rfl (.cons 2 rfl (.cons 3 rfl .nil)))) ⟨fun _ _ => rfl, fun _ _ => rfl, fun _ _ => rfl, fun _ _ => rfl, trivial⟩ FNet.sz60 (EffO.keep PIn.nil) fun w12 h12 => ?_
  simp only [List.cons_append, List.nil_append, List.set_cons_zero, List.set_cons_succ] at h12
  refine Plan.assign_bool rfl rfl ?_
  refine Plan.nil ?_
  refine hK9 _ _ ?_; clear hK9
  refine W.seq_k fun K13 hK13 => ?_
  refine W.seq_k fun K14 hK14 => ?_
  refine W.regionT [(0, true), (1, true)] (by kernel_rfl) ?_
  refine Plan.move_bool rfl rfl ?_
  refine Plan.not rfl rfl ?_
  refine Plan.nil ?_
  refine hK14 _ _ ?_; clear hK14
  by_cases hc15 : (mget k6 nflights4).isSome = true
  ·
    replace hR := ifT hR hc15
    refine W.condF (congrArg Value.bool (congrArg Bool.not hc15)) ?_
    refine W.skip ?_
    refine hK13 _ _ ?_; clear hK13
    refine W.seq_k fun K16 hK16 => ?_
    refine W.regionT [(0, true), (1, true), (2, true), (3, true), (4, true), (5, false)] (by kernel_rfl) ?_
    refine Plan.move_ptr rfl rfl ?_
    refine Plan.nilCheck rfl rfl ?_
    refine Plan.fieldAddr 2 FNet.fld127_2 rfl rfl ?_
    refine Plan.load0 h12 10 rfl rfl rfl (by omega) FNet.sc125 ?_
    refine Plan.move_int rfl rfl ?_
    refine Plan.delM (w0 := w0) (N := [mapR kvI (D60.at LP) [] mnflights4 nflights4]) (k := k6) h12 0 FNet.key3 FNet.mapt125 rfl rfl rfl rfl (by exact (EffO.wait rfl)) fun w17 h17 => ?_
    simp only [List.set_cons_zero, List.set_cons_succ] at h17
    refine Plan.nil ?_
    refine hK16 _ _ ?_; clear hK16
    refine W.seq_k fun K18 hK18 => ?_
    refine W.regionT [(0, true), (1, false), (2, true)] (by kernel_rfl) ?_
    refine Plan.loadA h17 rfl rfl (.cons 0 rfl (.cons 1 rfl (.cons 2 rfl (.cons 3 rfl .nil)))) FNet.agg60 ?_
    refine Plan.storeP (ps := [(1, fun _ => .int .i64 (((mget k6 nflights4).getD ((0 : Int), (0 : Int), (0 : Int), ([] : List Byte))).1)), (1, fun _ => .int .i64 (((mget k6 nflights4).getD ((0 : Int), (0 : Int), (0 : Int), ([] : List Byte))).2.1)), (1, fun _ => .int .i64 (((mget k6 nflights4).getD ((0 : Int), (0 : Int), (0 : Int), ([] : List Byte))).2.2.1)), (1, fun _ => .slice ((b10).1) ((((mget k6 nflights4).getD ((0 : Int), (0 : Int), (0 : Int), ([] : List Byte))).2.2.2).length) ((b10).2))]) h17 rfl rfl rfl (.cons 4 rfl (.cons 5 rfl (.cons 6 rfl (.cons 7 rfl .nil)))) ⟨fun _ _ => rfl, fun _ _ => rfl, fun _ _ => rfl, fun _ _ => rfl, trivial⟩ FNet.sz60 (EffO.wait rfl) fun w19 h19 => ?_
    simp only [List.cons_append, List.nil_append, List.set_cons_zero, List.set_cons_succ] at h19
    refine Plan.assign_int rfl rfl ?_
    refine Plan.nil ?_
    refine hK18 _ _ ?_; clear hK18
    refine W.ret (finR_ret ?_)
    obtain ⟨iz20, hz20⟩ : ∃ i, Bx LP i _ _ _ _ := hp10_3
    have h21 := St.pickT (C := [_, _, _, _, _, _, _, _, _, _, _, _]) h19 [8, 9, 10, 11] (by decide)
    simp only [pick, List.filterMap_cons, List.filterMap_nil, List.getElem?_cons_zero, List.getElem?_cons_succ, List.cons_append, List.nil_append] at h21
    subst r
    refine RetOk.mk (.agg h19 rfl (.cons 4 rfl (.cons 5 rfl (.cons 6 rfl (.cons 7 rfl .nil)))) FNet.agg60 (.tmp_int rfl .nil)) ?_
    exact ⟨[], iz20, (b10).1, (b10).2, rfl, h21, hz20⟩
  ·
    replace hR := ifF hR hc15
    refine W.condT (congrArg Value.bool (congrArg Bool.not (Bool.eq_false_iff.2 hc15))) ?_
    refine W.seq_k fun K22 hK22 => ?_
    refine W.regionT [(0, true), (1, false), (2, true)] (by kernel_rfl) ?_
    refine Plan.buildZ FNet.row60 FNet.z60 rfl ?_
    refine Plan.storeP (ps := [(1, fun _ => VN 0), (1, fun _ => VN 0), (1, fun _ => VN 0), (1, fun _ => .slice none 0 0)]) h12 rfl rfl rfl (.cons 4 rfl (.cons 5 rfl (.cons 6 rfl (.cons 7 rfl .nil)))) ⟨fun _ _ => rfl, fun _ _ => rfl, fun _ _ => rfl, fun _ _ => rfl, trivial⟩ FNet.sz60 (EffO.keep PIn.nil) fun w23 h23 => ?_
    simp only [List.cons_append, List.nil_append, List.set_cons_zero, List.set_cons_succ] at h23
    refine Plan.assign_int rfl rfl ?_
    refine Plan.nil ?_
    refine hK22 _ _ ?_; clear hK22
    refine W.ret (thenR_ret (finR_ret ?_))
    obtain ⟨iz24, hz24⟩ : ∃ i, Bx LP i _ _ _ _ := ⟨_, Bx.nil 0⟩
    have h25 := St.pickT (C := [_, _, _, _, _, _, _, _, _, _, _, _]) h23 [8, 9, 10, 11] (by decide)
    simp only [pick, List.filterMap_cons, List.filterMap_nil, List.getElem?_cons_zero, List.getElem?_cons_succ, List.cons_append, List.nil_append] at h25
    subst r
    refine RetOk.mk (.agg h23 rfl (.cons 4 rfl (.cons 5 rfl (.cons 6 rfl (.cons 7 rfl .nil)))) FNet.agg60 (.tmp_int rfl .nil)) ?_
    exact ⟨[], iz24, none, 0, rfl, h25, hz24⟩


set_option maxRecDepth 8000 in
set_option maxHeartbeats 1000000 in
theorem net_Net_Drop_ok {B : Nat} {w0 : Base} {w : World} {L : List Rg} {LP : List Rg} (hLP : ∀ r ∈ LP, r ∈ L) {bn_1 : Nat} {nnodes2 : Int} {nmost3 : Int} {nflights4 : List (Int × (Int × Int × Int × (List Byte)))} {mnflights4 : Nat} {nnext5 : Int} {k6 : Int} {r : (Nat × (List (Int × (Int × Int × Int × (List Byte)))))} (hR : net_Net_Drop nnodes2 nmost3 nflights4 nnext5 k6 r) (HST : St B (w0.on [mapR kvI (D60.at LP) [] mnflights4 nflights4]) (⟨some bn_1, 0, 1, fun _ => .int .i64 nnodes2, true⟩ :: ⟨some bn_1, 1, 1, fun _ => .int .i64 nmost3, true⟩ :: ⟨some bn_1, 2, 1, fun _ => .map (some mnflights4), true⟩ :: ⟨some bn_1, 3, 1, fun _ => .int .i64 nnext5, true⟩ :: L) w) :
    Calls Try.prog 48 #[.pointer (some ⟨bn_1, 0, none⟩), .int .i64 k6] w fun e w' => ∃ C : List Rg, e = .returned (VN r.1) ∧ St B (w0.on [mapR kvI (D60.at (C ++ LP)) [] mnflights4 r.2]) (⟨some bn_1, 0, 1, fun _ => .int .i64 nnodes2, true⟩ :: ⟨some bn_1, 1, 1, fun _ => .int .i64 nmost3, true⟩ :: ⟨some bn_1, 2, 1, fun _ => .map (some mnflights4), true⟩ :: ⟨some bn_1, 3, 1, fun _ => .int .i64 nnext5, true⟩ :: (C ++ L)) w' := by
  refine W.enter 14 Try.func48 rfl rfl rfl ?_
  unfold net_Net_Drop at hR
  have hFr : Fr2 L LP L LP := Fr2.refl _ _
  refine W.seq_k fun K7 hK7 => ?_
  refine W.regionT [(0, true)] (by kernel_rfl) ?_
  refine Plan.assign_int rfl rfl ?_
  refine Plan.nil ?_
  refine hK7 _ _ ?_; clear hK7
  refine W.seq_k fun K8 hK8 => ?_
  refine W.regionT [(0, true), (1, true), (2, false), (3, true), (4, true), (5, true), (6, false), (7, false), (8, true)] (by kernel_rfl) ?_
  refine Plan.move_ptr rfl rfl ?_
  refine Plan.move_int rfl rfl ?_
  obtain ⟨x_10, x_11, x_12, x_13, x_14, x_15, hr9, hR⟩ := hR
  refine Plan.call (vs := [.pointer (some ⟨bn_1, 0, none⟩), .int .i64 k6]) rfl FNet.call34 rfl (net_Net_Deliver_ok (w0 := w0) (LP := LP) (by exact fun r hr => List.mem_append_right [] (hLP r hr)) hr9 (show St B (w0.on [mapR kvI (D60.at LP) [] mnflights4 nflights4]) _ _ from HST)) ?_
  rintro _ w19 ⟨C19, iy0_3_16, ay0_3_17, cy0_3_18, rfl, h19, hf19_0⟩
  replace h19 : St B (w0.on [mapR kvI (D60.at (C19 ++ LP)) [] mnflights4 x_15]) _ _ := h19
  try dsimp only at hf19_0
  replace h19 := St.pool (N := [_, _, _, _]) (R := []) h19
  obtain ⟨L, hL20⟩ : ∃ X, X = C19 ++ L := ⟨_, rfl⟩
  obtain ⟨LP, hQ20⟩ : ∃ X, X = C19 ++ LP := ⟨_, rfl⟩
  replace hLP : ∀ r ∈ LP, r ∈ L := by rw [hQ20, hL20]; exact frMemGrow hLP
  have h20 := St.re (N := [_, _, _, _]) hL20 h19
  simp only [List.cons_append, List.nil_append] at h20
  replace hFr : Fr2 _ _ L LP := hFr.step hL20 hQ20
  have h22 := St.eqM (A' := LP) h20 (i := 0) rfl hQ20
  simp only [List.set_cons_zero, List.set_cons_succ] at h22
  have hp23 : ∃ i, Bx LP i ay0_3_17 x_13.length cy0_3_18 x_13 := by rw [hQ20]; exact ⟨_, hf19_0⟩
  obtain ⟨ix23, hv23⟩ := Bx.lift hp23.choose_spec hLP
  refine ⟨_, rfl, .inl ⟨PIn.keep PIn.nil h22, ?_⟩⟩
  refine Plan.move_tuple rfl rfl ?_
  refine Plan.extract_agg rfl rfl rfl ?_
  refine Plan.extract_int rfl rfl rfl ?_
  refine Plan.alloc h22 rfl FNet.z60 PIn.nil fun b24 w24 hb24 h24 => ?_
  simp only [rngs, Nat.zero_add, Nat.reduceAdd, List.cons_append, List.nil_append] at h24
  refine Plan.storeP (ps := [(1, fun _ => .int .i64 x_10), (1, fun _ => .int .i64 x_11), (1, fun _ => .int .i64 x_12), (1, fun _ => .slice ay0_3_17 x_13.length cy0_3_18)]) h24 rfl rfl rfl (.cons 0 rfl (.cons 1 rfl (.cons 2 rfl (.cons 3 rfl .nil)))) ⟨fun _ _ => rfl, fun _ _ => rfl, fun _ _ => rfl, fun _ _ => rfl, trivial⟩ FNet.sz60 (EffO.keep PIn.nil) fun w25 h25 => ?_
  simp only [List.cons_append, List.nil_append, List.set_cons_zero, List.set_cons_succ] at h25
  refine Plan.assign_int rfl rfl ?_
  refine Plan.nil ?_
  refine hK8 _ _ ?_; clear hK8
  refine W.seq_k fun K26 hK26 => ?_
  refine W.regionT [(0, true), (1, true)] (by kernel_rfl) ?_
  refine Plan.move_int rfl rfl ?_
  refine Plan.assign_int rfl rfl ?_
  refine Plan.nil ?_
  refine hK26 _ _ ?_; clear hK26
  refine W.ret (finR_ret ?_)
  have h27 := St.pickT (C := [_, _, _, _, _, _, _, _]) h25 [4, 5, 6, 7] (by decide)
  simp only [pick, List.filterMap_cons, List.filterMap_nil, List.getElem?_cons_zero, List.getElem?_cons_succ, List.cons_append, List.nil_append] at h27
  subst r
  refine RetOk.mk (.tmp_int rfl .nil) ?_
  obtain ⟨CF, hx1, hx2⟩ := hFr
  subst hx1
  subst hx2
  exact ⟨_, rfl, h27⟩


set_option maxRecDepth 8000 in
set_option maxHeartbeats 1000000 in
theorem net_Net_Copy_ok {B : Nat} {w0 : Base} {w : World} {L : List Rg} {LP : List Rg} (hLP : ∀ r ∈ LP, r ∈ L) {bn_1 : Nat} {nnodes2 : Int} {nmost3 : Int} {nflights4 : List (Int × (Int × Int × Int × (List Byte)))} {mnflights4 : Nat} {nnext5 : Int} {k6 : Int} {r : (Int × Nat × Int × (List (Int × (Int × Int × Int × (List Byte)))))} (hR : net_Net_Copy nnodes2 nmost3 nflights4 nnext5 k6 r) (HST : St B (w0.on [mapR kvI (D60.at LP) [] mnflights4 nflights4]) (⟨some bn_1, 0, 1, fun _ => .int .i64 nnodes2, true⟩ :: ⟨some bn_1, 1, 1, fun _ => .int .i64 nmost3, true⟩ :: ⟨some bn_1, 2, 1, fun _ => .map (some mnflights4), true⟩ :: ⟨some bn_1, 3, 1, fun _ => .int .i64 nnext5, true⟩ :: L) w) :
    Calls Try.prog 31 #[.pointer (some ⟨bn_1, 0, none⟩), .int .i64 k6] w fun e w' => ∃ C : List Rg, e = .returned (.tuple #[.int .i64 r.1, VN r.2.1]) ∧ St B (w0.on [mapR kvI (D60.at (C ++ LP)) [] mnflights4 r.2.2.2]) (⟨some bn_1, 0, 1, fun _ => .int .i64 nnodes2, true⟩ :: ⟨some bn_1, 1, 1, fun _ => .int .i64 nmost3, true⟩ :: ⟨some bn_1, 2, 1, fun _ => .map (some mnflights4), true⟩ :: ⟨some bn_1, 3, 1, fun _ => .int .i64 r.2.2.1, true⟩ :: (C ++ L)) w' := by
  refine W.enter 29 Try.func31 rfl rfl rfl ?_
  unfold net_Net_Copy at hR
  have hFr : Fr2 L LP L LP := Fr2.refl _ _
  refine W.seq_k fun K7 hK7 => ?_
  refine W.regionT [(0, true), (1, true)] (by kernel_rfl) ?_
  refine Plan.assign_int rfl rfl ?_
  refine Plan.assign_int rfl rfl ?_
  refine Plan.nil ?_
  refine hK7 _ _ ?_; clear hK7
  refine W.seq_k fun K8 hK8 => ?_
  refine W.regionT [(0, true), (1, true), (2, true), (3, true), (4, true), (5, false), (6, true), (7, true), (8, true), (9, false), (10, false), (11, true)] (by kernel_rfl) ?_
  refine Plan.move_ptr rfl rfl ?_
  refine Plan.nilCheck rfl rfl ?_
  refine Plan.fieldAddr 2 FNet.fld127_2 rfl rfl ?_
  refine Plan.load0 HST 2 rfl rfl rfl (by omega) FNet.sc125 ?_
  refine Plan.move_int rfl rfl ?_
  refine Plan.lookupM (w0 := w0) (D := (D60.at LP)) (N := [mapR kvI (D60.at LP) [] mnflights4 nflights4]) (X := nflights4) (k := k6) HST 0 FNet.key3 FNet.mapt125 rfl (none, 0) ((0 : Int), (0 : Int), (0 : Int), ([] : List Byte)) FNet.zM60 ⟨0, Bx.nil 0⟩ rfl rfl rfl (by exact (EffO.wait rfl)) fun b9 w9 hs9 h9 => ?_
  obtain ⟨i9_3, hv9_3⟩ := hs9
  have hp9_3 : ∃ i, Bx LP i _ _ _ _ := ⟨_, hv9_3⟩
  obtain ⟨i9_3, hv9_3⟩ := Bx.lift hv9_3 hLP
  refine Plan.move_tuple rfl rfl ?_
  refine Plan.extract_agg rfl rfl rfl ?_
  refine Plan.extract_bool rfl rfl rfl ?_
  refine Plan.alloc h9 rfl FNet.z60 PIn.nil fun b10 w10 hb10 h10 => ?_
  simp only [rngs, Nat.zero_add, Nat.reduceAdd, List.cons_append, List.nil_append] at h10
  refine Plan.storeP (ps := [(1, fun _ => .int .i64 (((mget k6 nflights4).getD ((0 : Int), (0 : Int), (0 : Int), ([] : List Byte))).1)), (1, fun _ => .int .i64 (((mget k6 nflights4).getD ((0 : Int), (0 : Int), (0 : Int), ([] : List Byte))).2.1)), (1, fun _ => .int .i64 (((mget k6 nflights4).getD ((0 : Int), (0 : Int), (0 : Int), ([] : List Byte))).2.2.1)), (1, fun _ => .slice ((b9).1) ((((mget k6 nflights4).getD ((0 : Int), (0 : Int), (0 : Int), ([] : List Byte))).2.2.2).length) ((b9).2))]) h10 rfl rfl rfl (.cons 0 rfl (.cons 1 rfl (.cons 2 rfl (.cons 3 rfl .nil)))) ⟨fun _ _ => rfl, fun _ _ => rfl, fun _ _ => rfl, fun _ _ => rfl, trivial⟩ FNet.sz60 (EffO.keep PIn.nil) fun w11 h11 => ?_
  simp only [List.cons_append, List.nil_append, List.set_cons_zero, List.set_cons_succ] at h11
  refine Plan.assign_bool rfl rfl ?_
  refine Plan.nil ?_
  refine hK8 _ _ ?_; clear hK8
  refine W.seq_k fun K12 hK12 => ?_
  refine W.seq_k fun K13 hK13 => ?_
  refine W.regionT [(0, true), (1, true)] (by kernel_rfl) ?_
  refine Plan.move_bool rfl rfl ?_
  refine Plan.not rfl rfl ?_
  refine Plan.nil ?_
  refine hK13 _ _ ?_; clear hK13
  by_cases hc14 : (mget k6 nflights4).isSome = true
  ·
    replace hR := ifT hR hc14
    refine W.condF (congrArg Value.bool (congrArg Bool.not hc14)) ?_
    refine W.skip ?_
    refine hK12 _ _ ?_; clear hK12
    refine W.seq_k fun K15 hK15 => ?_
    refine W.regionT [(0, true), (1, true), (2, true), (3, true), (4, true), (5, true), (6, true), (7, false), (8, true), (9, true), (10, true), (11, true)] (by kernel_rfl) ?_
    refine Plan.move_ptr rfl rfl ?_
    refine Plan.fieldAddr 1 FNet.fld60_1 rfl rfl ?_
    refine Plan.load0 h11 1 rfl rfl rfl (by omega) FNet.sc3 ?_
    refine Plan.fieldAddr 2 FNet.fld60_2 rfl rfl ?_
    refine Plan.load0 h11 2 rfl rfl rfl (by omega) FNet.sc3 ?_
    refine Plan.fieldAddr 3 FNet.fld60_3 rfl rfl ?_
    refine Plan.load0 h11 3 rfl rfl rfl (by omega) FNet.sc23 ?_
    have h16 := St.pickT (C := [_, _, _, _, _, _, _, _]) h11 [4, 5, 6, 7, 0, 1, 2, 3] (by decide)
    simp only [pick, List.filterMap_cons, List.filterMap_nil, List.getElem?_cons_zero, List.getElem?_cons_succ, List.cons_append, List.nil_append] at h16
    obtain ⟨x_18, x_19, x_20, x_21, hr17, hR⟩ := hR
    refine Plan.call (vs := [.pointer (some ⟨bn_1, 0, none⟩), .int .i64 (((mget k6 nflights4).getD ((0 : Int), (0 : Int), (0 : Int), ([] : List Byte))).2.1), .int .i64 (((mget k6 nflights4).getD ((0 : Int), (0 : Int), (0 : Int), ([] : List Byte))).2.2.1), .slice ((b9).1) ((((mget k6 nflights4).getD ((0 : Int), (0 : Int), (0 : Int), ([] : List Byte))).2.2.2).length) ((b9).2)]) rfl FNet.call66 rfl (net_Net_begin_ok (w0 := w0) (LP := LP) (by exact fun r hr => List.mem_append_right [_, _, _, _] (hLP r hr)) (hv9_3.app [_, _, _, _]) hr17 (show St B (w0.on [mapR kvI (D60.at LP) [] mnflights4 nflights4]) _ _ from h16)) ?_
    rintro _ w22 ⟨C22, rfl, h22⟩
    replace h22 : St B (w0.on [mapR kvI (D60.at (C22 ++ LP)) [] mnflights4 x_21]) _ _ := h22
    replace h22 := St.pool (N := [_, _, _, _]) (R := [_, _, _, _]) h22
    obtain ⟨L, hL23⟩ : ∃ X, X = C22 ++ L := ⟨_, rfl⟩
    obtain ⟨LP, hQ23⟩ : ∃ X, X = C22 ++ LP := ⟨_, rfl⟩
    replace hLP : ∀ r ∈ LP, r ∈ L := by rw [hQ23, hL23]; exact frMemGrow hLP
    have h23 := St.re (N := [_, _, _, _, _, _, _, _]) hL23 h22
    simp only [List.cons_append, List.nil_append] at h23
    replace hFr : Fr2 _ _ L LP := hFr.step hL23 hQ23
    obtain ⟨ix24, hv24⟩ : ∃ i, Bx L i ((b9).1) ((((mget k6 nflights4).getD ((0 : Int), (0 : Int), (0 : Int), ([] : List Byte))).2.2.2).length) ((b9).2) (((mget k6 nflights4).getD ((0 : Int), (0 : Int), (0 : Int), ([] : List Byte))).2.2.2) := ⟨_, by rw [hL23]; exact hv9_3.app _⟩
    have hp24 : ∃ i, Bx LP i ((b9).1) ((((mget k6 nflights4).getD ((0 : Int), (0 : Int), (0 : Int), ([] : List Byte))).2.2.2).length) ((b9).2) (((mget k6 nflights4).getD ((0 : Int), (0 : Int), (0 : Int), ([] : List Byte))).2.2.2) := by rw [hQ23]; exact ⟨_, hp9_3.choose_spec.app _⟩
    have h26 := St.eqM (A' := LP) h23 (i := 0) rfl hQ23
    simp only [List.set_cons_zero, List.set_cons_succ] at h26
    refine ⟨_, rfl, .inr ⟨rfl, ?_⟩⟩
    refine Plan.extract_int rfl rfl rfl ?_
    refine Plan.extract_int rfl rfl rfl ?_
    refine Plan.assign_int rfl rfl ?_
    refine Plan.assign_int rfl rfl ?_
    refine Plan.nil ?_
    refine hK15 _ _ ?_; clear hK15
    refine W.ret (finR_ret ?_)
    have h27 := St.pickT (C := [_, _, _, _, _, _, _, _]) h26 [0, 1, 2, 3] (by decide)
    simp only [pick, List.filterMap_cons, List.filterMap_nil, List.getElem?_cons_zero, List.getElem?_cons_succ, List.cons_append, List.nil_append] at h27
    subst r
    refine RetOk.mk (.tmp_int rfl (.tmp_int rfl .nil)) ?_
    obtain ⟨CF, hx1, hx2⟩ := hFr
    subst hx1
    subst hx2
    exact ⟨_, rfl, h27⟩
  ·
    replace hR := ifF hR hc14
    refine W.condT (congrArg Value.bool (congrArg Bool.not (Bool.eq_false_iff.2 hc14))) ?_
    refine W.seq_k fun K28 hK28 => ?_
    refine W.regionT [(0, true), (1, true)] (by kernel_rfl) ?_
    refine Plan.assign_int rfl rfl ?_
    refine Plan.assign_int rfl rfl ?_
    refine Plan.nil ?_
    refine hK28 _ _ ?_; clear hK28
    refine W.ret (thenR_ret (finR_ret ?_))
    have h29 := St.pickT (C := [_, _, _, _, _, _, _, _]) h11 [4, 5, 6, 7] (by decide)
    simp only [pick, List.filterMap_cons, List.filterMap_nil, List.getElem?_cons_zero, List.getElem?_cons_succ, List.cons_append, List.nil_append] at h29
    subst r
    refine RetOk.mk (.tmp_int rfl (.tmp_int rfl .nil)) ?_
    exact ⟨[], rfl, h29⟩


set_option maxRecDepth 8000 in
set_option maxHeartbeats 1000000 in
theorem net_Net_Flights_1_ok {B : Nat} {w0 : Base} {w : World} {L : List Rg} {aNumber1 : Int} {aFrom2 : Int} {aTo3 : Int} {aBytes4 : List Byte} {aaBytes4 : Option Addr} {naBytes4 caBytes4 iaBytes4 : Nat} (haBytes4 : Bx L iaBytes4 aaBytes4 naBytes4 caBytes4 aBytes4) {bNumber5 : Int} {bFrom6 : Int} {bTo7 : Int} {bBytes8 : List Byte} {abBytes8 : Option Addr} {nbBytes8 cbBytes8 ibBytes8 : Nat} (hbBytes8 : Bx L ibBytes8 abBytes8 nbBytes8 cbBytes8 bBytes8) {r : Int} (hR : net_Net_Flights_1 aNumber1 aFrom2 aTo3 aBytes4 bNumber5 bFrom6 bTo7 bBytes8 r) (HST : St B w0 (L) w) :
    Calls Try.prog 68 #[AG [(1, fun _ => .int .i64 aNumber1), (1, fun _ => .int .i64 aFrom2), (1, fun _ => .int .i64 aTo3), (1, fun _ => .slice aaBytes4 naBytes4 caBytes4)], AG [(1, fun _ => .int .i64 bNumber5), (1, fun _ => .int .i64 bFrom6), (1, fun _ => .int .i64 bTo7), (1, fun _ => .slice abBytes8 nbBytes8 cbBytes8)]] w fun e w' => e = .returned (.int .i64 r) ∧ St B w0 (L) w' := by
  refine W.enter 10 Try.func68 rfl rfl rfl ?_
  unfold net_Net_Flights_1 at hR
  have eaBytes4 := haBytes4.hl; subst eaBytes4
  have ebBytes8 := hbBytes8.hl; subst ebBytes8
  refine W.seq_k fun K9 hK9 => ?_
  refine W.regionT [(0, false), (1, false), (2, true)] (by kernel_rfl) ?_
  refine Plan.boxA HST rfl rfl PIn.nil fun b10 w10 hb10 h10 => ?_
  simp only [rngs, Nat.zero_add, Nat.reduceAdd, List.cons_append, List.nil_append] at h10
  refine Plan.boxA h10 rfl rfl PIn.nil fun b11 w11 hb11 h11 => ?_
  simp only [rngs, Nat.zero_add, Nat.reduceAdd, List.cons_append, List.nil_append] at h11
  refine Plan.assign_int rfl rfl ?_
  refine Plan.nil ?_
  refine hK9 _ _ ?_; clear hK9
  refine W.seq_k fun K12 hK12 => ?_
  refine W.regionT [(0, true), (1, true), (2, true), (3, true), (4, false), (5, true)] (by kernel_rfl) ?_
  refine Plan.fieldAddr0 FNet.fld60_0 rfl rfl ?_
  refine Plan.load0 h11 4 rfl rfl rfl (by omega) FNet.sc3 ?_
  refine Plan.fieldAddr0 FNet.fld60_0 rfl rfl ?_
  refine Plan.load0 h11 0 rfl rfl rfl (by omega) FNet.sc3 ?_
  obtain ⟨x_14, hr13, hR⟩ := hR
  refine Plan.call (vs := [.int .i64 aNumber1, .int .i64 bNumber5]) rfl FNet.call57 rfl (cmp_Compare_int_ok  hr13 h11) ?_
  rintro _ w15 ⟨rfl, h15⟩
  refine ⟨_, rfl, .inr ⟨rfl, ?_⟩⟩
  refine Plan.assign_int rfl rfl ?_
  refine Plan.nil ?_
  refine hK12 _ _ ?_; clear hK12
  refine W.ret (finR_ret ?_)
  have h16 := St.pickT (C := [_, _, _, _, _, _, _, _]) h15 [] (by decide)
  simp only [pick, List.filterMap_cons, List.filterMap_nil, List.getElem?_cons_zero, List.getElem?_cons_succ, List.cons_append, List.nil_append] at h16
  subst r
  refine RetOk.mk (.tmp_int rfl .nil) ?_
  exact ⟨rfl, h16⟩


set_option maxRecDepth 8000 in
set_option maxHeartbeats 1000000 in
theorem net_Net_Flights_ok {B : Nat} {w0 : Base} {w : World} {L : List Rg} {LP : List Rg} (hLP : ∀ r ∈ LP, r ∈ L) {bn_1 : Nat} {nnodes2 : Int} {nmost3 : Int} {nflights4 : List (Int × (Int × Int × Int × (List Byte)))} {mnflights4 : Nat} {nnext5 : Int} {r : (List (Int × Int × Int × (List Byte)))} (hR : net_Net_Flights nnodes2 nmost3 nflights4 nnext5 r) (HST : St B (w0.on [mapR kvI (D60.at LP) [] mnflights4 nflights4]) (⟨some bn_1, 0, 1, fun _ => .int .i64 nnodes2, true⟩ :: ⟨some bn_1, 1, 1, fun _ => .int .i64 nmost3, true⟩ :: ⟨some bn_1, 2, 1, fun _ => .map (some mnflights4), true⟩ :: ⟨some bn_1, 3, 1, fun _ => .int .i64 nnext5, true⟩ :: L) w) :
    Calls Try.prog 32 #[.pointer (some ⟨bn_1, 0, none⟩)] w fun e w' => ∃ C : List Rg, ∃ ay0 : Option Addr, ∃ py0 : Option Nat, ∃ ny0 : Nat, ∃ cy0 : Nat, ∃ Fy0 : Nat → Value, e = .returned (.slice ay0 ny0 cy0) ∧ St B (w0.on [mapR kvI (D60.at (C ++ LP)) [] mnflights4 nflights4]) (⟨py0, 0, cy0 * 4, Fy0, true⟩ :: ⟨some bn_1, 0, 1, fun _ => .int .i64 nnodes2, true⟩ :: ⟨some bn_1, 1, 1, fun _ => .int .i64 nmost3, true⟩ :: ⟨some bn_1, 2, 1, fun _ => .map (some mnflights4), true⟩ :: ⟨some bn_1, 3, 1, fun _ => .int .i64 nnext5, true⟩ :: (C ++ L)) w' ∧ LO (D60.at (C ++ LP)) [] ay0 py0 ny0 cy0 Fy0 r := by
  refine W.enter 26 Try.func32 rfl rfl rfl ?_
  unfold net_Net_Flights at hR
  have hFr : Fr2 L LP L LP := Fr2.refl _ _
  refine W.seq_k fun K6 hK6 => ?_
  refine W.regionT [(0, true)] (by kernel_rfl) ?_
  refine Plan.assign_slice rfl rfl ?_
  refine Plan.nil ?_
  refine hK6 _ _ ?_; clear hK6
  refine W.seq_k fun K7 hK7 => ?_
  refine W.regionT [(0, true)] (by kernel_rfl) ?_
  refine Plan.assign_slice rfl rfl ?_
  refine Plan.nil ?_
  refine hK7 _ _ ?_; clear hK7
  refine W.seq_k fun K8 hK8 => ?_
  refine W.seq_k fun K9 hK9 => ?_
  refine W.regionT [(0, true), (1, true), (2, true), (3, true), (4, false)] (by kernel_rfl) ?_
  refine Plan.move_ptr rfl rfl ?_
  refine Plan.nilCheck rfl rfl ?_
  refine Plan.fieldAddr 2 FNet.fld127_2 rfl rfl ?_
  refine Plan.load0 HST 2 rfl rfl rfl (by omega) FNet.sc125 ?_
  refine Plan.rangeM (w0 := w0) (N := [mapR kvI (D60.at LP) [] mnflights4 nflights4]) HST 0 FNet.mapt125 rfl rfl rfl (by exact (EffO.wait rfl)) fun r10 Z10 c10 w10 hz10 h10 => ?_
  simp only [List.set_cons_zero, List.set_cons_succ] at h10
  refine Plan.nil ?_
  refine hK9 _ _ ?_; clear hK9
  have hFj65 : Fr2 L LP L LP := Fr2.refl _ _
  have h66 : St B (w0.on [itR kvI D60 r10 mnflights4 Z10 c10 Z10, mapX kvI (D60.at LP) [] mnflights4 nflights4 Z10 c10]) (⟨none, 0, 0 * 4, fun _ => undef, true⟩ :: _) _ := h10.nilE (fun _ => undef)
  rw [← hz10.hX] at hR
  obtain ⟨Q65, hQ65⟩ : ∃ Q : (List (Int × Int × Int × (List Byte))) → Prop, RangeR _ Q _ _ _ ∧ Q = _ := ⟨_, hR, rfl⟩; clear hR
  refine W.cutN (fun e w => ∃ s65 : (List (Int × Int × Int × (List Byte))), Q65 s65 ∧ ∃ CG LG : List Rg, LG = CG ++ L ∧ ∃ QG : List Rg, QG = CG ++ LP ∧ ∃ L : List Rg, L = LG ∧ ∃ LP : List Rg, LP = QG ∧ (∀ r ∈ LP, r ∈ L) ∧ ∃ n_out63 : Nat, ∃ aout63 : Option Addr, ∃ pout63 : Option Nat, ∃ cout63 : Nat, ∃ Fout63 : Nat → Value, EnvHas e [(3, .slice aout63 n_out63 cout63), (10, .pointer (some ⟨r10, 0, none⟩))] ∧ St B (w0.on [itR kvI D60 r10 mnflights4 Z10 c10 ([] : List (ZE Int D60)), mapX kvI (D60.at LP) [] mnflights4 nflights4 Z10 c10]) (⟨pout63, 0, cout63 * 4, Fout63, true⟩ :: ⟨some bn_1, 0, 1, fun _ => .int .i64 nnodes2, true⟩ :: ⟨some bn_1, 1, 1, fun _ => .int .i64 nmost3, true⟩ :: ⟨some bn_1, 2, 1, fun _ => .map (some mnflights4), true⟩ :: ⟨some bn_1, 3, 1, fun _ => .int .i64 nnext5, true⟩ :: L) w ∧ LO (D60.at LP) [] aout63 pout63 n_out63 cout63 Fout63 s65) ?_ ?_
  ·
    refine W.block ?_
    refine W.range hQ65.1 (fun (Y65 : List (ZE Int D60)) (s65 : (List (Int × Int × Int × (List Byte)))) e w => ∃ CG LG : List Rg, LG = CG ++ L ∧ ∃ QG : List Rg, QG = CG ++ LP ∧ ∃ L : List Rg, L = LG ∧ ∃ LP : List Rg, LP = QG ∧ (∀ r ∈ LP, r ∈ L) ∧ ∃ n_out63 : Nat, ∃ aout63 : Option Addr, ∃ pout63 : Option Nat, ∃ cout63 : Nat, ∃ Fout63 : Nat → Value, EnvHas e [(3, .slice aout63 n_out63 cout63), (10, .pointer (some ⟨r10, 0, none⟩))] ∧ St B (w0.on [itR kvI D60 r10 mnflights4 Z10 c10 Y65, mapX kvI (D60.at LP) [] mnflights4 nflights4 Z10 c10]) (⟨pout63, 0, cout63 * 4, Fout63, true⟩ :: ⟨some bn_1, 0, 1, fun _ => .int .i64 nnodes2, true⟩ :: ⟨some bn_1, 1, 1, fun _ => .int .i64 nmost3, true⟩ :: ⟨some bn_1, 2, 1, fun _ => .map (some mnflights4), true⟩ :: ⟨some bn_1, 3, 1, fun _ => .int .i64 nnext5, true⟩ :: L) w ∧ LO (D60.at LP) [] aout63 pout63 n_out63 cout63 Fout63 s65) ⟨[], L, rfl, LP, rfl, L, rfl, LP, rfl, hLP, 0, none, none, 0, (fun _ => undef), (EnvHas.cons rfl (EnvHas.cons rfl EnvHas.nil)), h66, LO.nil⟩ ?_
    clear hQ65
    rintro Y65 out63 hR ev67 wl67 ⟨CG67, LG67, hlg67, QG67, hqg67, L, hLe67, LP, hQe67, hLPn67, n_out63, aout63, pout63, cout63, Fout63, he67, h67, hout63⟩
    obtain rfl : List.length (α := (Int × Int × Int × (List Byte))) out63 = n_out63 := hout63.hl
    obtain ⟨ev67, rfl⟩ := he67.open
    have hL67 := hLe67.trans hlg67
    have hQ67 := hQe67.trans hqg67
    replace hLP : ∀ r ∈ LP, r ∈ L := by rw [hQ67, hL67]; exact frMemGrow hLP
    replace hFr : Fr2 _ _ L LP := hFr.step hL67 hQ67
    replace hFj65 : Fr2 _ _ L LP := hFj65.step hL67 hQ67
    refine W.seq_k fun K69 hK69 => ?_
    refine W.regionT [(0, false), (1, true)] (by kernel_rfl) ?_
    refine Plan.nextM (w0 := w0) (D := (D60.at LP)) (N := [itR kvI D60 r10 mnflights4 Z10 c10 Y65, mapX kvI (D60.at LP) [] mnflights4 nflights4 Z10 c10]) h67 0 1 rfl rfl rfl rfl (by exact (EffO.keep PIn.nil)) (fun hy70 w70 h70 => ?_) ?_
    ·
      replace hR := hR.nil (by rw [hy70]; rfl)
      subst hy70
      refine Plan.extract_bool rfl rfl rfl ?_
      refine Plan.nil ?_
      refine hK69 _ _ ?_; clear hK69
      refine W.seq_k fun K72 hK72 => ?_
      refine W.condF rfl ?_
      refine W.exit (thenR_exit (rangeQ_exit (blockR_here ?_)))
      obtain ⟨CF73, hx73, hy73⟩ := hFj65
      exact ⟨out63, hR, CF73, L, hx73, LP, hy73, L, rfl, LP, rfl, hLP, out63.length, aout63, pout63, cout63, Fout63, (EnvHas.cons rfl (EnvHas.cons rfl EnvHas.nil)), h70, hout63⟩
    ·
      rintro q71 ⟨bo71, kx71, b71, vx71⟩ hq71 w70 h70
      simp only [List.set_cons_zero, List.set_cons_succ] at h70
      obtain ⟨o65, hR, hrest71⟩ := hR.cons (i := q71) (p := (kx71, vx71)) (by rw [List.getElem?_map, hq71]; rfl)
      unfold net_Net_Flights_l0 at hR
      dsimp only at hR
      refine Plan.extract_bool rfl rfl rfl ?_
      refine Plan.nil ?_
      refine hK69 _ _ ?_; clear hK69
      refine W.seq_k fun K74 hK74 => ?_
      refine W.condT rfl ?_
      refine W.skip ?_
      refine hK74 _ _ ?_; clear hK74
      refine W.block ?_
      refine W.seq_k fun K75 hK75 => ?_
      refine W.regionT [(0, false), (1, true), (2, false), (3, false)] (by kernel_rfl) ?_
      refine Plan.entryM (w0 := w0) (D := (D60.at LP)) (N := [itE kvI D60 r10 mnflights4 Z10 c10 (Y65.eraseIdx q71) (bo71, kx71, b71, vx71), mapX kvI (D60.at LP) [] mnflights4 nflights4 Z10 c10]) h70 0 1 rfl rfl rfl rfl (by exact (EffO.keep PIn.nil)) fun w76 hs71 h76 => ?_
      simp only [List.set_cons_zero, List.set_cons_succ] at h76
      obtain ⟨i71_3, hv71_3⟩ := hs71
      have hp71_3 : ∃ i, Bx LP i _ _ _ _ := ⟨_, hv71_3⟩
      obtain ⟨i71_3, hv71_3⟩ := Bx.lift hv71_3 hLP
      refine Plan.extract_agg rfl rfl rfl ?_
      refine Plan.alloc h76 rfl FNet.z60 PIn.nil fun b77 w77 hb77 h77 => ?_
      simp only [rngs, Nat.zero_add, Nat.reduceAdd, List.cons_append, List.nil_append] at h77
      refine Plan.storeP (ps := [(1, fun _ => .int .i64 vx71.1), (1, fun _ => .int .i64 vx71.2.1), (1, fun _ => .int .i64 vx71.2.2.1), (1, fun _ => .slice ((b71).1) ((vx71.2.2.2).length) ((b71).2))]) h77 rfl rfl rfl (.cons 0 rfl (.cons 1 rfl (.cons 2 rfl (.cons 3 rfl .nil)))) ⟨fun _ _ => rfl, fun _ _ => rfl, fun _ _ => rfl, fun _ _ => rfl, trivial⟩ FNet.sz60 (EffO.keep PIn.nil) fun w78 h78 => ?_
      simp only [List.cons_append, List.nil_append, List.set_cons_zero, List.set_cons_succ] at h78
      refine Plan.nil ?_
      refine hK75 _ _ ?_; clear hK75
      refine W.seq_k fun K79 hK79 => ?_
      refine W.regionT [(0, true), (1, true), (2, false), (3, true), (4, false)] (by kernel_rfl) ?_
      refine Plan.fieldAddr 3 FNet.fld60_3 rfl rfl ?_
      refine Plan.load0 h78 3 rfl rfl rfl (by omega) FNet.sc23 ?_
      have h80 := h78.nilR
      obtain ⟨hc82, hR⟩ := hR
      refine Plan.appendO (X := ([] : List Byte)) (Y := (vx71.2.2.2)) h80 0 Ow.nil FNet.el23 FNet.sl23 rfl rfl rfl rfl (hv71_3.app [_, _, _, _, _, _, _, _, _, _]) hc82 (fun _ => EffO.wait rfl) fun a81 pb81 cap81 F81 w81 ho81 h81 => ?_
      simp only [List.cons_append, List.nil_append, List.set_cons_zero, List.set_cons_succ] at h81
      refine Plan.fieldAddr 3 FNet.fld60_3 rfl rfl ?_
      refine Plan.storeC h81 4 rfl rfl rfl rfl rfl FNet.sz23 rfl fun w83 h83 => ?_
      simp only [List.cons_append, List.nil_append, List.set_cons_zero, List.set_cons_succ] at h83
      refine Plan.nil ?_
      refine hK79 _ _ ?_; clear hK79
      refine W.regionT [(0, true), (1, true), (2, false), (3, false), (4, true)] (by kernel_rfl) ?_
      refine Plan.move_slice rfl rfl ?_
      refine Plan.loadA h83 rfl rfl (.cons 1 rfl (.cons 2 rfl (.cons 3 rfl (.cons 4 rfl .nil)))) FNet.agg60 ?_
      have h86 := St.pickT (C := [_, _, _, _, _, _, _, _, _, _]) h83 [1, 2, 3, 4, 5, 6, 7, 8, 9, 0] (by decide)
      simp only [pick, List.filterMap_cons, List.filterMap_nil, List.getElem?_cons_zero, List.getElem?_cons_succ, List.cons_append, List.nil_append] at h86
      obtain ⟨L, hL87⟩ : ∃ X, X = [⟨pb81, 0, cap81, fun q => VU .u8 (F81 q), true⟩] ++ L := ⟨_, rfl⟩
      obtain ⟨LP, hQ87⟩ : ∃ X, X = [⟨pb81, 0, cap81, fun q => VU .u8 (F81 q), true⟩] ++ LP := ⟨_, rfl⟩
      replace hLP : ∀ r ∈ LP, r ∈ L := by rw [hQ87, hL87]; exact frMemGrow hLP
      have h87 := St.re (N := [_, _, _, _, _, _, _, _, _]) hL87 h86
      simp only [List.cons_append, List.nil_append] at h87
      replace hFr : Fr2 _ _ L LP := hFr.step hL87 hQ87
      replace hFj65 : Fr2 _ _ L LP := hFj65.step hL87 hQ87
      obtain ⟨ix88, hv88⟩ : ∃ i, Bx L i ((b71).1) ((vx71.2.2.2).length) ((b71).2) (vx71.2.2.2) := ⟨_, by rw [hL87]; exact hv71_3.app _⟩
      have hp88 : ∃ i, Bx LP i ((b71).1) ((vx71.2.2.2).length) ((b71).2) (vx71.2.2.2) := by rw [hQ87]; exact ⟨_, hp71_3.choose_spec.app _⟩
      have ho89 : LO (D60.at LP) [] aout63 pout63 ((out63).length) cout63 Fout63 out63 := by rw [hQ87]; exact LO.grow D60_lifts (fun r hr => List.mem_append_right _ hr) hout63
      have h90 := St.liftX (LP' := LP) h87 (i := 1) rfl D60_lifts (fun r hr => by rw [hQ87]; exact List.mem_append_right _ hr)
      simp only [List.set_cons_zero, List.set_cons_succ] at h90
      obtain ⟨ix91, hv91⟩ : ∃ i, Bx L i a81 ((([] : List Byte) ++ (vx71.2.2.2)).length) cap81 (([] : List Byte) ++ (vx71.2.2.2)) := ⟨_, by rw [hL87]; exact (ho81.bx 0 rfl)⟩
      have hp91 : ∃ i, Bx LP i a81 ((([] : List Byte) ++ (vx71.2.2.2)).length) cap81 (([] : List Byte) ++ (vx71.2.2.2)) := ⟨_, by rw [hQ87]; exact (ho81.bx 0 rfl)⟩
      refine Plan.buildLO (D := (D60.at LP)) (sz := 4) h90 [((a81, cap81), ((vx71.1, vx71.2.1, vx71.2.2.1, (([] : List Byte) ++ (vx71.2.2.2))) : (Int × Int × Int × (List Byte))))] FNet.slu57 FNet.sz60 FNet.zv60 (by decide) (by decide) rfl rfl rfl rfl (by exact (List.forall_mem_cons.2 ⟨hp91, (fun _ h => nomatch h)⟩)) (EffO.wait rfl) fun b85 w85 F85 hb85 ho85 h85 => ?_
      replace ho85 : LO (D60.at LP) [] (some ⟨b85, 0, none⟩) (some b85) ([(vx71.1, vx71.2.1, vx71.2.2.1, (([] : List Byte) ++ (vx71.2.2.2)))] : List (Int × Int × Int × (List Byte))).length 1 F85 ([(vx71.1, vx71.2.1, vx71.2.2.1, (([] : List Byte) ++ (vx71.2.2.2)))] : List (Int × Int × Int × (List Byte))) := ho85.re (fun _ _ h => h)
      obtain ⟨hc93, hR⟩ := hR
      refine Plan.appendLO (D := (D60.at LP)) (X := out63) (Y := ([(vx71.1, vx71.2.1, vx71.2.2.1, (([] : List Byte) ++ (vx71.2.2.2)))] : List (Int × Int × Int × (List Byte)))) (sz := 4) h85 (none, 0) ((0 : Int), (0 : Int), (0 : Int), ([] : List Byte)) 5 ho89 rfl FNet.el57 rfl FNet.slu57 rfl rfl rfl rfl (LO.lvf EL.at_flat ho85 0 rfl) (fun _ _ h => h) hc93.1 hc93.2 (fun _ => EffO.keep PIn.nil) fun a92 pb92 cap92 F92 w92 ho92 h92 => ?_
      simp only [List.cons_append, List.nil_append, List.set_cons_zero, List.set_cons_succ] at h92
      replace ho92 : LO (D60.at LP) [] a92 pb92 (out63 ++ ([(vx71.1, vx71.2.1, vx71.2.2.1, (([] : List Byte) ++ (vx71.2.2.2)))] : List (Int × Int × Int × (List Byte)))).length cap92 F92 (out63 ++ ([(vx71.1, vx71.2.1, vx71.2.2.1, (([] : List Byte) ++ (vx71.2.2.2)))] : List (Int × Int × Int × (List Byte)))) := ho92.re (fun _ _ h => h)
      refine Plan.assign_slice rfl rfl ?_
      refine Plan.nil ?_
      refine blockR_norm ?_
      have h94 := St.pickT (C := [_, _, _, _, _, _, _, _, _, _]) h92 [5, 6, 7, 8, 9] (by decide)
      simp only [pick, List.filterMap_cons, List.filterMap_nil, List.getElem?_cons_zero, List.getElem?_cons_succ, List.cons_append, List.nil_append] at h94
      obtain ⟨CF95, hx95, hy95⟩ := hFj65
      subst hR
      exact rangeQ_norm hq71 hrest71 ⟨CF95, L, hx95, LP, hy95, L, rfl, LP, rfl, hLP, (out63 ++ ([(vx71.1, vx71.2.1, vx71.2.2.1, (([] : List Byte) ++ (vx71.2.2.2)))] : List (Int × Int × Int × (List Byte)))).length, a92, pb92, cap92, F92, (EnvHas.cons rfl (EnvHas.cons rfl EnvHas.nil)), h94, ho92⟩
  ·
    rintro ev96 wl96 ⟨out63, hR, CG96, LG96, hlg96, QG96, hqg96, L, hLe96, LP, hQe96, hLPn96, n_out63, aout63, pout63, cout63, Fout63, he96, h96, hout63⟩
    rw [hQ65.2] at hR; clear hQ65
    try dsimp only at hR he96 h96 hout63
    obtain rfl : List.length (α := (Int × Int × Int × (List Byte))) out63 = n_out63 := hout63.hl
    obtain ⟨ev96, rfl⟩ := he96.open
    have hL96 := hLe96.trans hlg96
    have hQ96 := hQe96.trans hqg96
    replace hLP : ∀ r ∈ LP, r ∈ L := by rw [hQ96, hL96]; exact frMemGrow hLP
    replace hFr : Fr2 _ _ L LP := hFr.step hL96 hQ96
    replace hFj65 : Fr2 _ _ L LP := hFj65.step hL96 hQ96
    have h98 : St B (w0.on [itR kvI D60 r10 mnflights4 Z10 c10 ([] : List (ZE Int D60)), mapR kvI (D60.at LP) [] mnflights4 nflights4]) _ _ := St.unfixM h96 (i := 1) rfl
    have h99 : St B (w0.on [mapR kvI (D60.at LP) [] mnflights4 nflights4]) _ _ := St.mpick (N := [itR kvI D60 r10 mnflights4 Z10 c10 ([] : List (ZE Int D60)), mapR kvI (D60.at LP) [] mnflights4 nflights4]) (N' := [mapR kvI (D60.at LP) [] mnflights4 nflights4]) h98 [1] (by decide) rfl
    refine hK8 _ _ ?_; clear hK8
    refine W.seq_k fun K100 hK100 => ?_
    refine W.regionT [(0, true), (1, false)] (by kernel_rfl) ?_
    refine Plan.move_slice rfl rfl ?_
    obtain ⟨hc103, hR⟩ := hR
    obtain ⟨cf101, hcf101, hsw101, hR⟩ := hR
    refine Plan.call (vs := [.slice aout63 out63.length cout63, .func (.func 68) #[] #[]]) rfl FNet.call67 rfl (sortFn_ok (D := D60) (L0 := LP) sortL67 Try.isAgg60 Try.sizeOf60 (enters_of Try.func68 (by kernel_rfl) rfl) h99 (LO.unAt hout63) (kk := 0) rfl cf101 hsw101 (fun _ _ => rfl) (fun B w0 L' w b1 x1 b2 x2 hs s1 s2 => net_Net_Flights_1_ok (s1.choose_spec) (s2.choose_spec) (hcf101 x1 x2) hs) (fun b x r hs => (Bx.toRo (hs).choose_spec (fun r hr => by exact List.mem_append_right [_, _, _, _, _] (hLP r hr)))) hc103 (by decide)) ?_
    rintro _ w102 ⟨rfl, so101, F102, hp101, hq101, ho102, h102⟩
    simp only [List.cons_append, List.nil_append, List.set_cons_zero, List.set_cons_succ] at h102
    replace ho102 := ho102.toAt
    replace hR := hR so101 hp101 hq101
    have e102 : so101.length = out63.length := hp101.length_eq
    refine ⟨_, rfl, .inl ⟨PIn.keep PIn.nil h102, ?_⟩⟩
    refine Plan.nil ?_
    refine hK100 _ _ ?_; clear hK100
    refine W.seq_k fun K104 hK104 => ?_
    refine W.regionT [(0, true), (1, true)] (by kernel_rfl) ?_
    refine Plan.move_slice rfl rfl ?_
    refine Plan.assign_slice rfl rfl ?_
    refine Plan.nil ?_
    refine hK104 _ _ ?_; clear hK104
    refine W.ret (finR_ret ?_)
    subst r
    refine RetOk.mk (.tmp_slice rfl .nil) ?_
    obtain ⟨CF, hx1, hx2⟩ := hFr
    subst hx1
    subst hx2
    exact ⟨_, aout63, pout63, out63.length, cout63, F102, rfl, h102, ho102⟩


set_option maxRecDepth 8000 in
set_option maxHeartbeats 1000000 in
theorem net_Net_Next_ok {B : Nat} {w0 : Base} {w : World} {L : List Rg} {LP : List Rg} (hLP : ∀ r ∈ LP, r ∈ L) {bn_1 : Nat} {nnodes2 : Int} {nmost3 : Int} {nflights4 : List (Int × (Int × Int × Int × (List Byte)))} {mnflights4 : Nat} {nnext5 : Int} {r : Int} (hR : net_Net_Next nnodes2 nmost3 nflights4 nnext5 r) (HST : St B (w0.on [mapR kvI (D60.at LP) [] mnflights4 nflights4]) (⟨some bn_1, 0, 1, fun _ => .int .i64 nnodes2, true⟩ :: ⟨some bn_1, 1, 1, fun _ => .int .i64 nmost3, true⟩ :: ⟨some bn_1, 2, 1, fun _ => .map (some mnflights4), true⟩ :: ⟨some bn_1, 3, 1, fun _ => .int .i64 nnext5, true⟩ :: L) w) :
    Calls Try.prog 45 #[.pointer (some ⟨bn_1, 0, none⟩)] w fun e w' => ∃ C : List Rg, e = .returned (.int .i64 r) ∧ St B (w0.on [mapR kvI (D60.at (C ++ LP)) [] mnflights4 nflights4]) (⟨some bn_1, 0, 1, fun _ => .int .i64 nnodes2, true⟩ :: ⟨some bn_1, 1, 1, fun _ => .int .i64 nmost3, true⟩ :: ⟨some bn_1, 2, 1, fun _ => .map (some mnflights4), true⟩ :: ⟨some bn_1, 3, 1, fun _ => .int .i64 nnext5, true⟩ :: (C ++ L)) w' := by
  refine W.enter 7 Try.func45 rfl rfl rfl ?_
  unfold net_Net_Next at hR
  have hFr : Fr2 L LP L LP := Fr2.refl _ _
  refine W.seq_k fun K6 hK6 => ?_
  refine W.regionT [(0, true)] (by kernel_rfl) ?_
  refine Plan.assign_int rfl rfl ?_
  refine Plan.nil ?_
  refine hK6 _ _ ?_; clear hK6
  refine W.seq_k fun K7 hK7 => ?_
  refine W.regionT [(0, true), (1, true), (2, true), (3, true), (4, true)] (by kernel_rfl) ?_
  refine Plan.move_ptr rfl rfl ?_
  refine Plan.nilCheck rfl rfl ?_
  refine Plan.fieldAddr 3 FNet.fld127_3 rfl rfl ?_
  refine Plan.load0 HST 3 rfl rfl rfl (by omega) FNet.sc3 ?_
  refine Plan.assign_int rfl rfl ?_
  refine Plan.nil ?_
  refine hK7 _ _ ?_; clear hK7
  refine W.ret (finR_ret ?_)
  subst r
  refine RetOk.mk (.tmp_int rfl .nil) ?_
  exact ⟨[], rfl, HST⟩

end Go.Proofs.Ytbkgblhmlenocaa
