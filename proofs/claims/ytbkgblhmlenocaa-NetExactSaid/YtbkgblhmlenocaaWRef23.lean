/-
  WALKS of the package's functions, printed by this session's own program (auto.py).
-/
import Derived.Test.YtbkgblhmlenocaaProg
import Derived.Test.YtbkgblhmlenocaaEd
import Derived.Test.YtbkgblhmlenocaaRRef23
import Derived.Test.YtbkgblhmlenocaaEls
namespace Go.Proofs.Ytbkgblhmlenocaa
set_option linter.unusedSimpArgs false
set_option linter.unusedVariables false
set_option linter.unusedSectionVars false
open Go Go.LW
theorem FRef23.pl142 : placesB Try.prog 142 [(0, 1), (1, 1), (2, 1), (3, 1)] = true := by kernel_rfl
theorem FRef23.z142 : zeroIs Try.prog 142 [(1, fun _ => .int .i64 0), (1, fun _ => .int .i64 0), (1, fun _ => .slice none 0 0), (1, fun _ => .int .i64 0)] := zeroIs_agg (by kernel_rfl)
theorem FRef23.sc3 : scalarT Try.prog 3 = true := by kernel_rfl
theorem FRef23.slu23 : Try.prog.underlying 23 = some (.slice 5) := by kernel_rfl
theorem FRef23.sz5 : szT Try.prog 5 1 = true := by kernel_rfl
theorem FRef23.sc23 : scalarT Try.prog 23 = true := by kernel_rfl
theorem FRef23.el23 : elD Try.prog 23 = some (1, 1, some (VU .u8 0#8)) := by kernel_rfl
theorem FRef23.sl23 : slB Try.prog 23 1 = true := by kernel_rfl
theorem FRef23.mixed : Try.prog.follows .mixedOrders = true := by kernel_rfl
theorem FRef23.pl60 : placesB Try.prog 60 [(0, 1), (1, 1), (2, 1), (3, 1)] = true := by kernel_rfl
theorem FRef23.z60 : zeroIs Try.prog 60 [(1, fun _ => .int .i64 0), (1, fun _ => .int .i64 0), (1, fun _ => .int .i64 0), (1, fun _ => .slice none 0 0)] := zeroIs_agg (by kernel_rfl)
theorem FRef23.sz3 : szT Try.prog 3 1 = true := by kernel_rfl
theorem FRef23.fld142_0 : fieldB Try.prog 142 0 0 = true := by kernel_rfl
theorem FRef23.fld142_2 : fieldB Try.prog 142 2 2 = true := by kernel_rfl
theorem FRef23.sc57 : scalarT Try.prog 57 = true := by kernel_rfl
theorem FRef23.isl57 : ∃ el, Try.prog.underlying 57 = some (.slice el) := ⟨60, by kernel_rfl⟩
theorem FRef23.fld142_1 : fieldB Try.prog 142 1 1 = true := by kernel_rfl
theorem FRef23.agg60 : aggT Try.prog 60 4 = true := by kernel_rfl
theorem FRef23.fld60_3 : fieldB Try.prog 60 3 3 = true := by kernel_rfl
theorem FRef23.sz23 : szT Try.prog 23 1 = true := by kernel_rfl
theorem FRef23.sz60 : szT Try.prog 60 4 = true := by kernel_rfl
theorem FRef23.call76 : callB Try.prog 76 = true := by kernel_rfl
theorem FRef23.fld142_3 : fieldB Try.prog 142 3 3 = true := by kernel_rfl
theorem FRef23.fld60_0 : fieldB Try.prog 60 0 0 = true := by kernel_rfl
theorem FRef23.zv60 : (Try.prog.info? 60).bind (·.zero) = some (AG [(1, fun _ => .int .i64 0), (1, fun _ => .int .i64 0), (1, fun _ => .int .i64 0), (1, fun _ => .slice none 0 0)]) := by kernel_rfl
theorem FRef23.slu57 : Try.prog.underlying 57 = some (.slice 60) := by kernel_rfl
theorem FRef23.el57 : elD Try.prog 57 = some (4, 48, some (AG [(1, fun _ => .int .i64 0), (1, fun _ => .int .i64 0), (1, fun _ => .int .i64 0), (1, fun _ => .slice none 0 0)])) := by kernel_rfl
theorem FRef23.sz57 : szT Try.prog 57 1 = true := by kernel_rfl
theorem FRef23.call94 : callB Try.prog 94 = true := by kernel_rfl
theorem FRef23.row60 : rowB Try.prog 60 = true := by kernel_rfl
theorem FRef23.sl57 : slB Try.prog 57 4 = true := by kernel_rfl
theorem FRef23.call95 : callB Try.prog 95 = true := by kernel_rfl
theorem FRef23.call96 : callB Try.prog 96 = true := by kernel_rfl

set_option maxRecDepth 8000 in
set_option maxHeartbeats 1000000 in
theorem letheref23_New_ok {B : Nat} {w0 : Base} {w : World} {L : List Rg} {LP : List Rg} (hLP : ∀ r ∈ LP, r ∈ L) {nodes1 : Int} {most2 : Int} {r : Nat ⊕ (Int × Int × (List (Int × Int × Int × (List Byte))) × Nat × Nat)} (hR : letheref23_New nodes1 most2 r) (HST : St B w0 (L) w) :
    Calls Try.prog 41 #[.int .i64 nodes1, .int .i64 most2] w fun e w' => match r with | .inl z => ∃ C : List Rg, e = .returned (.tuple #[.pointer none, VN z]) ∧ St B w0 ((C ++ L)) w' | .inr z => ∃ C : List Rg, ∃ b0 : Nat, ∃ aw0_2 : Option Addr, ∃ pw0_2 : Option Nat, ∃ nw0_2 : Nat, ∃ cw0_2 : Nat, ∃ Fw0_2 : Nat → Value, e = .returned (.tuple #[.pointer (some ⟨b0, 0, none⟩), VN z.2.2.2.2]) ∧ St B w0 (⟨some b0, 0, 1, fun _ => .int .i64 z.1, true⟩ :: ⟨some b0, 1, 1, fun _ => .int .i64 z.2.1, true⟩ :: ⟨some b0, 2, 1, fun _ => .slice aw0_2 nw0_2 cw0_2, true⟩ :: ⟨pw0_2, 0, cw0_2 * 4, Fw0_2, true⟩ :: ⟨some b0, 3, 1, fun _ => VN z.2.2.2.1, true⟩ :: (C ++ L)) w' ∧ LO (D60.at (C ++ LP)) [] aw0_2 pw0_2 nw0_2 cw0_2 Fw0_2 z.2.2.1 := by
  refine W.enter 24 Try.func41 rfl rfl rfl ?_
  unfold letheref23_New at hR
  have hFr : Fr2 L LP L LP := Fr2.refl _ _
  refine W.seq_k fun K3 hK3 => ?_
  refine W.regionT [(0, true), (1, true)] (by kernel_rfl) ?_
  refine Plan.assign_ptr rfl rfl ?_
  refine Plan.assign_int rfl rfl ?_
  refine Plan.nil ?_
  refine hK3 _ _ ?_; clear hK3
  refine W.seq_k fun K4 hK4 => ?_
  refine W.seq_k fun K14 hK14 => ?_
  refine W.regionT [(0, true), (1, true), (2, true), (3, true), (4, true), (5, true), (6, true), (7, true), (8, true), (9, true), (10, true), (11, true), (12, true), (13, true)] (by kernel_rfl) ?_
  refine Plan.move_int rfl rfl ?_
  by_cases hc15 : nodes1 < 1
  ·
    replace hR := ifT hR hc15
    refine Plan.cmpV (a := (nodes1 : Int)) (b := (1 : Int)) (p := nodes1 < 1) (v := true) rfl rfl rfl rfl icmp_lt (decide_eq_true hc15) ?_
    refine Plan.move_bool rfl rfl ?_
    refine Plan.passed rfl ?_
    refine Plan.passed rfl ?_
    refine Plan.pickTb rfl rfl rfl ?_
    refine Plan.move_bool rfl rfl ?_
    refine Plan.passed rfl ?_
    refine Plan.passed rfl ?_
    refine Plan.pickTb rfl rfl rfl ?_
    refine Plan.move_bool rfl rfl ?_
    refine Plan.passed rfl ?_
    refine Plan.passed rfl ?_
    refine Plan.pickTb rfl rfl rfl ?_
    refine Plan.nil ?_
    refine hK14 _ _ ?_; clear hK14
    refine W.condT rfl ?_
    refine W.seq_k fun K16 hK16 => ?_
    refine W.regionT [(0, true), (1, true)] (by kernel_rfl) ?_
    refine Plan.assign_ptr rfl rfl ?_
    refine Plan.assign_int rfl rfl ?_
    refine Plan.nil ?_
    refine hK16 _ _ ?_; clear hK16
    refine W.ret (thenR_ret (finR_ret ?_))
    subst r
    refine RetOk.mk (.tmp_ptr rfl (.tmp_int rfl .nil)) ?_
    exact ⟨[], rfl, HST⟩
  ·
    replace hR := ifF hR hc15
    refine Plan.cmpV (a := (nodes1 : Int)) (b := (1 : Int)) (p := nodes1 < 1) (v := false) rfl rfl rfl rfl icmp_lt (decide_eq_false hc15) ?_
    refine Plan.move_bool rfl rfl ?_
    refine Plan.move_int rfl rfl ?_
    by_cases hc17 : 4 < nodes1
    ·
      replace hR := ifT hR hc17
      refine Plan.cmpV (a := (nodes1 : Int)) (b := (4 : Int)) (p := 4 < nodes1) (v := true) rfl rfl rfl rfl icmp_gt (decide_eq_true hc17) ?_
      refine Plan.pickFb rfl rfl rfl ?_
      refine Plan.move_bool rfl rfl ?_
      refine Plan.passed rfl ?_
      refine Plan.passed rfl ?_
      refine Plan.pickTb rfl rfl rfl ?_
      refine Plan.move_bool rfl rfl ?_
      refine Plan.passed rfl ?_
      refine Plan.passed rfl ?_
      refine Plan.pickTb rfl rfl rfl ?_
      refine Plan.nil ?_
      refine hK14 _ _ ?_; clear hK14
      refine W.condT rfl ?_
      refine W.seq_k fun K18 hK18 => ?_
      refine W.regionT [(0, true), (1, true)] (by kernel_rfl) ?_
      refine Plan.assign_ptr rfl rfl ?_
      refine Plan.assign_int rfl rfl ?_
      refine Plan.nil ?_
      refine hK18 _ _ ?_; clear hK18
      refine W.ret (thenR_ret (finR_ret ?_))
      subst r
      refine RetOk.mk (.tmp_ptr rfl (.tmp_int rfl .nil)) ?_
      exact ⟨[], rfl, HST⟩
    ·
      replace hR := ifF hR hc17
      refine Plan.cmpV (a := (nodes1 : Int)) (b := (4 : Int)) (p := 4 < nodes1) (v := false) rfl rfl rfl rfl icmp_gt (decide_eq_false hc17) ?_
      refine Plan.pickFb rfl rfl rfl ?_
      refine Plan.move_bool rfl rfl ?_
      refine Plan.move_int rfl rfl ?_
      by_cases hc19 : most2 < 0
      ·
        replace hR := ifT hR hc19
        refine Plan.cmpV (a := (most2 : Int)) (b := (0 : Int)) (p := most2 < 0) (v := true) rfl rfl rfl rfl icmp_lt (decide_eq_true hc19) ?_
        refine Plan.pickFb rfl rfl rfl ?_
        refine Plan.move_bool rfl rfl ?_
        refine Plan.passed rfl ?_
        refine Plan.passed rfl ?_
        refine Plan.pickTb rfl rfl rfl ?_
        refine Plan.nil ?_
        refine hK14 _ _ ?_; clear hK14
        refine W.condT rfl ?_
        refine W.seq_k fun K20 hK20 => ?_
        refine W.regionT [(0, true), (1, true)] (by kernel_rfl) ?_
        refine Plan.assign_ptr rfl rfl ?_
        refine Plan.assign_int rfl rfl ?_
        refine Plan.nil ?_
        refine hK20 _ _ ?_; clear hK20
        refine W.ret (thenR_ret (finR_ret ?_))
        subst r
        refine RetOk.mk (.tmp_ptr rfl (.tmp_int rfl .nil)) ?_
        exact ⟨[], rfl, HST⟩
      ·
        replace hR := ifF hR hc19
        refine Plan.cmpV (a := (most2 : Int)) (b := (0 : Int)) (p := most2 < 0) (v := false) rfl rfl rfl rfl icmp_lt (decide_eq_false hc19) ?_
        refine Plan.pickFb rfl rfl rfl ?_
        refine Plan.move_bool rfl rfl ?_
        refine Plan.move_int rfl rfl ?_
        refine Plan.cmpP (a := (most2 : Int)) (b := (4096 : Int)) (p := 4096 < most2) rfl rfl rfl rfl icmp_gt ?_
        refine Plan.pickFb rfl rfl rfl ?_
        refine Plan.nil ?_
        refine hK14 _ _ ?_; clear hK14
        by_cases hc21 : 4096 < most2
        ·
          replace hR := ifT hR hc21
          refine W.condT (congrArg Value.bool (decide_eq_true hc21)) ?_
          refine W.seq_k fun K22 hK22 => ?_
          refine W.regionT [(0, true), (1, true)] (by kernel_rfl) ?_
          refine Plan.assign_ptr rfl rfl ?_
          refine Plan.assign_int rfl rfl ?_
          refine Plan.nil ?_
          refine hK22 _ _ ?_; clear hK22
          refine W.ret (thenR_ret (finR_ret ?_))
          subst r
          refine RetOk.mk (.tmp_ptr rfl (.tmp_int rfl .nil)) ?_
          exact ⟨[], rfl, HST⟩
        ·
          replace hR := ifF hR hc21
          refine W.condF (congrArg Value.bool (decide_eq_false hc21)) ?_
          refine W.skip ?_
          refine hK4 _ _ ?_; clear hK4
          refine W.seq_k fun K23 hK23 => ?_
          refine W.regionT [(0, true), (1, true), (2, true), (3, false), (4, true), (5, true)] (by kernel_rfl) ?_
          refine Plan.move_int rfl rfl ?_
          refine Plan.move_int rfl rfl ?_
          refine Plan.buildP (ps := [(1, fun _ => .int .i64 nodes1), (1, fun _ => .int .i64 most2), (1, fun _ => .slice none 0 0), (1, fun _ => VN 0)]) FRef23.pl142 (by decide) FRef23.z142 rfl rfl (.one [] [(1, fun _ => VN 0), (1, fun _ => .slice none 0 0), (1, fun _ => VN 0)] (fun _ => VN 0) rfl rfl (.one [(1, fun _ => .int .i64 nodes1)] [(1, fun _ => .slice none 0 0), (1, fun _ => VN 0)] (fun _ => VN 0) rfl rfl .nil)) ?_
          refine Plan.boxA HST rfl rfl PIn.nil fun b24 w24 hb24 h24 => ?_
          simp only [rngs, Nat.zero_add, Nat.reduceAdd, List.cons_append, List.nil_append] at h24
          refine Plan.assign_ptr rfl rfl ?_
          refine Plan.assign_int rfl rfl ?_
          refine Plan.nil ?_
          refine hK23 _ _ ?_; clear hK23
          refine W.ret (finR_ret ?_)
          have h25 : St B w0 (⟨none, 0, 0 * 4, fun _ => undef, true⟩ :: _) _ := h24.nilE (fun _ => undef)
          have h26 := St.pickT (C := [_, _, _, _, _]) h25 [1, 2, 3, 0, 4] (by decide)
          simp only [pick, List.filterMap_cons, List.filterMap_nil, List.getElem?_cons_zero, List.getElem?_cons_succ, List.cons_append, List.nil_append] at h26
          subst r
          refine RetOk.mk (.tmp_ptr rfl (.tmp_int rfl .nil)) ?_
          exact ⟨[], b24, none, none, 0, 0, (fun _ => undef), rfl, h26, LO.nil⟩


set_option maxRecDepth 8000 in
set_option maxHeartbeats 1000000 in
theorem letheref23_Twin_ok {B : Nat} {w0 : Base} {w : World} {L : List Rg} {fNumber1 : Int} {fFrom2 : Int} {fTo3 : Int} {fBytes4 : List Byte} {afBytes4 : Option Addr} {nfBytes4 cfBytes4 ifBytes4 : Nat} (hfBytes4 : Bx L ifBytes4 afBytes4 nfBytes4 cfBytes4 fBytes4) {r : (Int × Int × Int × (List Byte))} (hR : letheref23_Twin fNumber1 fFrom2 fTo3 fBytes4 r) (HST : St B w0 (L) w) :
    Calls Try.prog 76 #[AG [(1, fun _ => .int .i64 fNumber1), (1, fun _ => .int .i64 fFrom2), (1, fun _ => .int .i64 fTo3), (1, fun _ => .slice afBytes4 nfBytes4 cfBytes4)]] w fun e w' => ∃ C : List Rg, ∃ iy0_3 : Nat, ∃ ay0_3 : Option Addr, ∃ cy0_3 : Nat, e = .returned (AG [(1, fun _ => .int .i64 r.1), (1, fun _ => .int .i64 r.2.1), (1, fun _ => .int .i64 r.2.2.1), (1, fun _ => .slice ay0_3 r.2.2.2.length cy0_3)]) ∧ St B w0 ((C ++ L)) w' ∧ Bx C iy0_3 ay0_3 r.2.2.2.length cy0_3 r.2.2.2 := by
  refine W.enter 9 Try.func76 rfl rfl rfl ?_
  unfold letheref23_Twin at hR
  obtain ⟨LP, hLPn⟩ : ∃ X, X = ([] : List Rg) := ⟨_, rfl⟩
  have hLP : ∀ r ∈ LP, r ∈ L := by rw [hLPn]; exact fun r hr => nomatch hr
  have hFr : Fr2 L [] L LP := by rw [hLPn]; exact Fr2.refl _ _
  have efBytes4 := hfBytes4.hl; subst efBytes4
  refine W.seq_k fun K5 hK5 => ?_
  refine W.regionT [(0, false), (1, false)] (by kernel_rfl) ?_
  refine Plan.boxA HST rfl rfl PIn.nil fun b6 w6 hb6 h6 => ?_
  simp only [rngs, Nat.zero_add, Nat.reduceAdd, List.cons_append, List.nil_append] at h6
  refine Plan.alloc h6 rfl FRef23.z60 PIn.nil fun b7 w7 hb7 h7 => ?_
  simp only [rngs, Nat.zero_add, Nat.reduceAdd, List.cons_append, List.nil_append] at h7
  refine Plan.nil ?_
  refine hK5 _ _ ?_; clear hK5
  refine W.seq_k fun K8 hK8 => ?_
  refine W.regionT [(0, false), (1, true), (2, true), (3, false), (4, true), (5, false)] (by kernel_rfl) ?_
  refine Plan.buildE h7 (fun q => VU .u8 ((fun _ => 0#8 : Nat → Byte) q)) FRef23.slu23 FRef23.sz5 rfl (EffO.keep PIn.nil) fun b9 w9 hb9 h9 => ?_
  refine Plan.fieldAddr 3 FRef23.fld60_3 rfl rfl ?_
  refine Plan.load0 h9 8 rfl rfl rfl (by omega) FRef23.sc23 ?_
  obtain ⟨hc11, hR⟩ := hR
  refine Plan.appendO (X := ([] : List Byte)) (Y := fBytes4) h9 0 Ow.empty FRef23.el23 FRef23.sl23 rfl rfl rfl rfl (hfBytes4.app [_, _, _, _, _, _, _, _, _]) hc11 (fun _ => EffO.wait rfl) fun a10 pb10 cap10 F10 w10 ho10 h10 => ?_
  simp only [List.cons_append, List.nil_append, List.set_cons_zero, List.set_cons_succ] at h10
  refine Plan.fieldAddr 3 FRef23.fld60_3 rfl rfl ?_
  refine Plan.storeC h10 8 rfl rfl rfl rfl rfl FRef23.sz23 rfl fun w12 h12 => ?_
  simp only [List.cons_append, List.nil_append, List.set_cons_zero, List.set_cons_succ] at h12
  refine Plan.nil ?_
  refine hK8 _ _ ?_; clear hK8
  refine W.seq_k fun K13 hK13 => ?_
  refine W.regionT [(0, true), (1, false)] (by kernel_rfl) ?_
  refine Plan.loadA h12 rfl rfl (.cons 5 rfl (.cons 6 rfl (.cons 7 rfl (.cons 8 rfl .nil)))) FRef23.agg60 ?_
  refine Plan.storeP (ps := [(1, fun _ => .int .i64 fNumber1), (1, fun _ => .int .i64 fFrom2), (1, fun _ => .int .i64 fTo3), (1, fun _ => .slice a10 ((([] : List Byte) ++ fBytes4).length) cap10)]) h12 rfl rfl rfl (.cons 1 rfl (.cons 2 rfl (.cons 3 rfl (.cons 4 rfl .nil)))) ⟨fun _ _ => rfl, fun _ _ => rfl, fun _ _ => rfl, fun _ _ => rfl, trivial⟩ FRef23.sz60 (EffO.wait rfl) fun w14 h14 => ?_
  simp only [List.cons_append, List.nil_append, List.set_cons_zero, List.set_cons_succ] at h14
  refine Plan.nil ?_
  refine hK13 _ _ ?_; clear hK13
  refine W.ret (finR_ret ?_)
  have h15 := St.pickT (C := [_, _, _, _, _, _, _, _, _]) h14 [1, 2, 3, 4, 5, 6, 7, 8, 0] (by decide)
  simp only [pick, List.filterMap_cons, List.filterMap_nil, List.getElem?_cons_zero, List.getElem?_cons_succ, List.cons_append, List.nil_append] at h15
  obtain ⟨L, hL16⟩ : ∃ X, X = [⟨pb10, 0, cap10, fun q => VU .u8 (F10 q), true⟩] ++ L := ⟨_, rfl⟩
  obtain ⟨LP, hQ16⟩ : ∃ X, X = [⟨pb10, 0, cap10, fun q => VU .u8 (F10 q), true⟩] ++ LP := ⟨_, rfl⟩
  replace hLP : ∀ r ∈ LP, r ∈ L := by rw [hQ16, hL16]; exact frMemGrow hLP
  have h16 := St.re (N := [_, _, _, _, _, _, _, _]) hL16 h15
  simp only [List.cons_append, List.nil_append] at h16
  replace hFr : Fr2 _ _ L LP := hFr.step hL16 hQ16
  obtain ⟨ix17, hv17⟩ : ∃ i, Bx L i afBytes4 fBytes4.length cfBytes4 fBytes4 := ⟨_, by rw [hL16]; exact hfBytes4.app _⟩
  obtain ⟨ix18, hv18⟩ : ∃ i, Bx L i a10 ((([] : List Byte) ++ fBytes4).length) cap10 (([] : List Byte) ++ fBytes4) := ⟨_, by rw [hL16]; exact (ho10.bx 0 rfl)⟩
  have hp18 : ∃ i, Bx LP i a10 ((([] : List Byte) ++ fBytes4).length) cap10 (([] : List Byte) ++ fBytes4) := ⟨_, by rw [hQ16]; exact (ho10.bx 0 rfl)⟩
  obtain ⟨iz19, hz19⟩ : ∃ i, Bx LP i _ _ _ _ := hp18
  have h20 := St.pickT (C := [_, _, _, _, _, _, _, _]) h16 [] (by decide)
  simp only [pick, List.filterMap_cons, List.filterMap_nil, List.getElem?_cons_zero, List.getElem?_cons_succ, List.cons_append, List.nil_append] at h20
  subst r
  refine RetOk.mk (.agg h14 rfl (.cons 1 rfl (.cons 2 rfl (.cons 3 rfl (.cons 4 rfl .nil)))) FRef23.agg60 .nil) ?_
  obtain ⟨CF, hx1, hx2⟩ := hFr
  simp only [List.append_nil] at hx2
  subst hx1
  subst hx2
  exact ⟨_, iz19, a10, cap10, rfl, h20, hz19⟩


set_option maxRecDepth 8000 in
set_option maxHeartbeats 1000000 in
theorem letheref23_Net_add_ok {B : Nat} {w0 : Base} {w : World} {L : List Rg} {LP : List Rg} (hLP : ∀ r ∈ LP, r ∈ L) {bn_1 : Nat} {nNodes2 : Int} {nMost3 : Int} {nRow4 : List (Int × Int × Int × (List Byte))} {anRow4 : Option Addr} {pnRow4 : Option Nat} {nnRow4 cnRow4 : Nat} {FnRow4 : Nat → Value} (hnRow4 : LO (D60.at LP) [] anRow4 pnRow4 nnRow4 cnRow4 FnRow4 nRow4) {nNumber5 : Int} {fNumber6 : Int} {fFrom7 : Int} {fTo8 : Int} {fBytes9 : List Byte} {afBytes9 : Option Addr} {nfBytes9 cfBytes9 : Nat} (qfBytes9 : ∃ i, Bx LP i afBytes9 nfBytes9 cfBytes9 fBytes9) {r : (Int × (List (Int × Int × Int × (List Byte))) × Int)} (hR : letheref23_Net_add nNodes2 nMost3 nRow4 nNumber5 fNumber6 fFrom7 fTo8 fBytes9 r) (HST : St B w0 (⟨some bn_1, 0, 1, fun _ => .int .i64 nNodes2, true⟩ :: ⟨some bn_1, 1, 1, fun _ => .int .i64 nMost3, true⟩ :: ⟨some bn_1, 2, 1, fun _ => .slice anRow4 nnRow4 cnRow4, true⟩ :: ⟨pnRow4, 0, cnRow4 * 4, FnRow4, true⟩ :: ⟨some bn_1, 3, 1, fun _ => .int .i64 nNumber5, true⟩ :: L) w) :
    Calls Try.prog 94 #[.pointer (some ⟨bn_1, 0, none⟩), AG [(1, fun _ => .int .i64 fNumber6), (1, fun _ => .int .i64 fFrom7), (1, fun _ => .int .i64 fTo8), (1, fun _ => .slice afBytes9 nfBytes9 cfBytes9)]] w fun e w' => ∃ C : List Rg, ∃ aqnRow4 : Option Addr, ∃ pqnRow4 : Option Nat, ∃ nqnRow4 : Nat, ∃ cqnRow4 : Nat, ∃ FqnRow4 : Nat → Value, e = .returned (.int .i64 r.1) ∧ St B w0 (⟨some bn_1, 0, 1, fun _ => .int .i64 nNodes2, true⟩ :: ⟨some bn_1, 1, 1, fun _ => .int .i64 nMost3, true⟩ :: ⟨some bn_1, 2, 1, fun _ => .slice aqnRow4 nqnRow4 cqnRow4, true⟩ :: ⟨pqnRow4, 0, cqnRow4 * 4, FqnRow4, true⟩ :: ⟨some bn_1, 3, 1, fun _ => .int .i64 r.2.2, true⟩ :: (C ++ L)) w' ∧ LO (D60.at (C ++ LP)) [] aqnRow4 pqnRow4 nqnRow4 cqnRow4 FqnRow4 r.2.1 := by
  refine W.enter 31 Try.func94 rfl rfl rfl ?_
  unfold letheref23_Net_add at hR
  have hFr : Fr2 L LP L LP := Fr2.refl _ _
  have enRow4 := hnRow4.hl; subst enRow4
  have efBytes9 := qfBytes9.choose_spec.hl; subst efBytes9
  obtain ⟨ifBytes9, hfBytes9⟩ := Bx.lift qfBytes9.choose_spec hLP
  refine W.seq_k fun K10 hK10 => ?_
  refine W.regionT [(0, false), (1, true)] (by kernel_rfl) ?_
  refine Plan.boxA HST rfl rfl PIn.nil fun b11 w11 hb11 h11 => ?_
  simp only [rngs, Nat.zero_add, Nat.reduceAdd, List.cons_append, List.nil_append] at h11
  refine Plan.assign_int rfl rfl ?_
  refine Plan.nil ?_
  refine hK10 _ _ ?_; clear hK10
  refine W.seq_k fun K12 hK12 => ?_
  refine W.regionT [(0, true), (1, false), (2, false)] (by kernel_rfl) ?_
  refine Plan.loadA h11 rfl rfl (.cons 0 rfl (.cons 1 rfl (.cons 2 rfl (.cons 3 rfl .nil)))) FRef23.agg60 ?_
  obtain ⟨x_14, x_15, x_16, x_17, hr13, hR⟩ := hR
  refine Plan.call (vs := [AG [(1, fun _ => .int .i64 fNumber6), (1, fun _ => .int .i64 fFrom7), (1, fun _ => .int .i64 fTo8), (1, fun _ => .slice afBytes9 fBytes9.length cfBytes9)]]) rfl FRef23.call76 rfl (letheref23_Twin_ok (hfBytes9.app [_, _, _, _, _, _, _, _, _]) hr13 h11) ?_
  rintro _ w21 ⟨C21, iy0_3_18, ay0_3_19, cy0_3_20, rfl, h21, hf21_0⟩
  try dsimp only at hf21_0
  replace h21 := St.pool (N := []) (R := [_, _, _, _, _, _, _, _, _]) h21
  obtain ⟨L, hL22⟩ : ∃ X, X = C21 ++ L := ⟨_, rfl⟩
  obtain ⟨LP, hQ22⟩ : ∃ X, X = C21 ++ LP := ⟨_, rfl⟩
  replace hLP : ∀ r ∈ LP, r ∈ L := by rw [hQ22, hL22]; exact frMemGrow hLP
  have h22 := St.re (N := [_, _, _, _, _, _, _, _, _]) hL22 h21
  simp only [List.cons_append, List.nil_append] at h22
  replace hFr : Fr2 _ _ L LP := hFr.step hL22 hQ22
  obtain ⟨ix23, hv23⟩ : ∃ i, Bx L i afBytes9 fBytes9.length cfBytes9 fBytes9 := ⟨_, by rw [hL22]; exact hfBytes9.app _⟩
  have hp23 : ∃ i, Bx LP i afBytes9 fBytes9.length cfBytes9 fBytes9 := by rw [hQ22]; exact ⟨_, qfBytes9.choose_spec.app _⟩
  have ho24 : LO (D60.at LP) [] anRow4 pnRow4 ((nRow4).length) cnRow4 FnRow4 nRow4 := by rw [hQ22]; exact LO.grow D60_lifts (fun r hr => List.mem_append_right _ hr) hnRow4
  have hp25 : ∃ i, Bx LP i ay0_3_19 x_17.length cy0_3_20 x_17 := by rw [hQ22]; exact Bx.lift hf21_0 (fun r hr => List.mem_append_left _ hr)
  obtain ⟨ix25, hv25⟩ := Bx.lift hp25.choose_spec hLP
  refine ⟨_, rfl, .inr ⟨rfl, ?_⟩⟩
  refine Plan.storeP (ps := [(1, fun _ => .int .i64 x_14), (1, fun _ => .int .i64 x_15), (1, fun _ => .int .i64 x_16), (1, fun _ => .slice ay0_3_19 x_17.length cy0_3_20)]) h22 rfl rfl rfl (.cons 0 rfl (.cons 1 rfl (.cons 2 rfl (.cons 3 rfl .nil)))) ⟨fun _ _ => rfl, fun _ _ => rfl, fun _ _ => rfl, fun _ _ => rfl, trivial⟩ FRef23.sz60 (EffO.keep PIn.nil) fun w26 h26 => ?_
  simp only [List.cons_append, List.nil_append, List.set_cons_zero, List.set_cons_succ] at h26
  refine Plan.nil ?_
  refine hK12 _ _ ?_; clear hK12
  refine W.seq_k fun K27 hK27 => ?_
  refine W.regionT [(0, true), (1, true), (2, true), (3, true), (4, true), (5, false)] (by kernel_rfl) ?_
  refine Plan.move_ptr rfl rfl ?_
  refine Plan.nilCheck rfl rfl ?_
  refine Plan.fieldAddr 3 FRef23.fld142_3 rfl rfl ?_
  refine Plan.load0 h26 8 rfl rfl rfl (by omega) FRef23.sc3 ?_
  refine Plan.fieldAddr0 FRef23.fld60_0 rfl rfl ?_
  refine Plan.storeC_int h26 0 rfl rfl rfl rfl FRef23.sz3 rfl fun w28 h28 => ?_
  simp only [List.cons_append, List.nil_append, List.set_cons_zero, List.set_cons_succ] at h28
  refine Plan.nil ?_
  refine hK27 _ _ ?_; clear hK27
  refine W.seq_k fun K29 hK29 => ?_
  refine W.regionD FRef23.mixed [(0, true), (1, true), (2, true), (3, true), (4, true), (5, true), (6, false), (7, false), (8, true), (9, true), (10, false)] (by kernel_rfl) ?_
  have h30 := h28.drew
  refine Plan.move_ptr rfl rfl ?_
  refine Plan.move_ptr rfl rfl ?_
  refine Plan.nilCheck rfl rfl ?_
  refine Plan.fieldAddr 2 FRef23.fld142_2 rfl rfl ?_
  refine Plan.load0 h30 6 rfl rfl rfl (by omega) FRef23.sc57 ?_
  refine Plan.loadA h30 rfl rfl (.cons 0 rfl (.cons 1 rfl (.cons 2 rfl (.cons 3 rfl .nil)))) FRef23.agg60 ?_
  refine Plan.buildLO (D := (D60.at LP)) (sz := 4) h30 [((ay0_3_19, cy0_3_20), ((nNumber5, x_15, x_16, x_17) : (Int × Int × Int × (List Byte))))] FRef23.slu57 FRef23.sz60 FRef23.zv60 (by decide) (by decide) rfl rfl rfl rfl (by exact (List.forall_mem_cons.2 ⟨hp25, (fun _ h => nomatch h)⟩)) (EffO.mix _ (Filt.drop rfl (Filt.keep rfl Filt.nil)) (PIn.cons 6 rfl PIn.nil)) fun b32 w32 F32 hb32 ho32 h32 => ?_
  replace ho32 : LO (D60.at LP) [] (some ⟨b32, 0, none⟩) (some b32) ([(nNumber5, x_15, x_16, x_17)] : List (Int × Int × Int × (List Byte))).length 1 F32 ([(nNumber5, x_15, x_16, x_17)] : List (Int × Int × Int × (List Byte))) := ho32.re (fun _ _ h => h)
  obtain ⟨hc34, hR⟩ := hR
  refine Plan.appendLO (D := (D60.at LP)) (X := nRow4) (Y := ([(nNumber5, x_15, x_16, x_17)] : List (Int × Int × Int × (List Byte)))) (sz := 4) h32 (none, 0) ((0 : Int), (0 : Int), (0 : Int), ([] : List Byte)) 8 ho24 rfl FRef23.el57 rfl FRef23.slu57 rfl rfl rfl rfl (LO.lvf EL.at_flat ho32 0 rfl) (fun _ _ h => h) hc34.1 hc34.2 (fun _ => EffO.wait rfl) fun a33 pb33 cap33 F33 w33 ho33 h33 => ?_
  simp only [List.cons_append, List.nil_append, List.set_cons_zero, List.set_cons_succ] at h33
  replace ho33 : LO (D60.at LP) [] a33 pb33 (nRow4 ++ ([(nNumber5, x_15, x_16, x_17)] : List (Int × Int × Int × (List Byte)))).length cap33 F33 (nRow4 ++ ([(nNumber5, x_15, x_16, x_17)] : List (Int × Int × Int × (List Byte)))) := ho33.re (fun _ _ h => h)
  refine Plan.nilCheck rfl rfl ?_
  refine Plan.fieldAddr 2 FRef23.fld142_2 rfl rfl ?_
  refine Plan.storeC h33 7 rfl rfl rfl rfl rfl FRef23.sz57 rfl fun w35 h35 => ?_
  simp only [List.cons_append, List.nil_append, List.set_cons_zero, List.set_cons_succ] at h35
  refine Plan.nil ?_
  refine hK29 _ _ ?_; clear hK29
  refine W.seq_k fun K36 hK36 => ?_
  refine W.regionT [(0, true), (1, true), (2, true), (3, true), (4, true), (5, true), (6, true), (7, false)] (by kernel_rfl) ?_
  refine Plan.move_ptr rfl rfl ?_
  refine Plan.nilCheck rfl rfl ?_
  refine Plan.fieldAddr 3 FRef23.fld142_3 rfl rfl ?_
  refine Plan.load0 h35 9 rfl rfl rfl (by omega) FRef23.sc3 ?_
  obtain ⟨hc37, hR⟩ := hR
  refine Plan.addI (a := nNumber5) (b := 1) rfl rfl rfl (by omega) ?_
  refine Plan.nilCheck rfl rfl ?_
  refine Plan.fieldAddr 3 FRef23.fld142_3 rfl rfl ?_
  refine Plan.storeC_int h35 9 rfl rfl rfl rfl FRef23.sz3 rfl fun w38 h38 => ?_
  simp only [List.cons_append, List.nil_append, List.set_cons_zero, List.set_cons_succ] at h38
  refine Plan.nil ?_
  refine hK36 _ _ ?_; clear hK36
  refine W.seq_k fun K39 hK39 => ?_
  refine W.regionT [(0, true), (1, true), (2, true)] (by kernel_rfl) ?_
  refine Plan.fieldAddr0 FRef23.fld60_0 rfl rfl ?_
  refine Plan.load0 h38 1 rfl rfl rfl (by omega) FRef23.sc3 ?_
  refine Plan.assign_int rfl rfl ?_
  refine Plan.nil ?_
  refine hK39 _ _ ?_; clear hK39
  refine W.ret (finR_ret ?_)
  have h40 := St.pickT (C := [_, _, _, _, _, _, _, _, _, _]) h38 [5, 6, 7, 8, 9] (by decide)
  simp only [pick, List.filterMap_cons, List.filterMap_nil, List.getElem?_cons_zero, List.getElem?_cons_succ, List.cons_append, List.nil_append] at h40
  subst r
  refine RetOk.mk (.tmp_int rfl .nil) ?_
  obtain ⟨CF, hx1, hx2⟩ := hFr
  subst hx1
  subst hx2
  exact ⟨_, a33, pb33, (nRow4 ++ ([(nNumber5, x_15, x_16, x_17)] : List (Int × Int × Int × (List Byte)))).length, cap33, F33, rfl, h40, ho33⟩


set_option maxRecDepth 8000 in
set_option maxHeartbeats 1000000 in
theorem letheref23_Net_Send_ok {B : Nat} {w0 : Base} {w : World} {L : List Rg} {LP : List Rg} (hLP : ∀ r ∈ LP, r ∈ L) {bn_1 : Nat} {nNodes2 : Int} {nMost3 : Int} {nRow4 : List (Int × Int × Int × (List Byte))} {anRow4 : Option Addr} {pnRow4 : Option Nat} {nnRow4 cnRow4 : Nat} {FnRow4 : Nat → Value} (hnRow4 : LO (D60.at LP) [] anRow4 pnRow4 nnRow4 cnRow4 FnRow4 nRow4) {nNumber5 : Int} {from_6 : Int} {to7 : Int} {b8 : List Byte} {ab8 : Option Addr} {nb8 cb8 : Nat} (qb8 : ∃ i, Bx LP i ab8 nb8 cb8 b8) {r : (Int × Nat × (List (Int × Int × Int × (List Byte))) × Int)} (hR : letheref23_Net_Send nNodes2 nMost3 nRow4 nNumber5 from_6 to7 b8 r) (HST : St B w0 (⟨some bn_1, 0, 1, fun _ => .int .i64 nNodes2, true⟩ :: ⟨some bn_1, 1, 1, fun _ => .int .i64 nMost3, true⟩ :: ⟨some bn_1, 2, 1, fun _ => .slice anRow4 nnRow4 cnRow4, true⟩ :: ⟨pnRow4, 0, cnRow4 * 4, FnRow4, true⟩ :: ⟨some bn_1, 3, 1, fun _ => .int .i64 nNumber5, true⟩ :: L) w) :
    Calls Try.prog 72 #[.pointer (some ⟨bn_1, 0, none⟩), .int .i64 from_6, .int .i64 to7, .slice ab8 nb8 cb8] w fun e w' => ∃ C : List Rg, ∃ aqnRow4 : Option Addr, ∃ pqnRow4 : Option Nat, ∃ nqnRow4 : Nat, ∃ cqnRow4 : Nat, ∃ FqnRow4 : Nat → Value, e = .returned (.tuple #[.int .i64 r.1, VN r.2.1]) ∧ St B w0 (⟨some bn_1, 0, 1, fun _ => .int .i64 nNodes2, true⟩ :: ⟨some bn_1, 1, 1, fun _ => .int .i64 nMost3, true⟩ :: ⟨some bn_1, 2, 1, fun _ => .slice aqnRow4 nqnRow4 cqnRow4, true⟩ :: ⟨pqnRow4, 0, cqnRow4 * 4, FqnRow4, true⟩ :: ⟨some bn_1, 3, 1, fun _ => .int .i64 r.2.2.2, true⟩ :: (C ++ L)) w' ∧ LO (D60.at (C ++ LP)) [] aqnRow4 pqnRow4 nqnRow4 cqnRow4 FqnRow4 r.2.2.1 := by
  refine W.enter 48 Try.func72 rfl rfl rfl ?_
  unfold letheref23_Net_Send at hR
  have hFr : Fr2 L LP L LP := Fr2.refl _ _
  have enRow4 := hnRow4.hl; subst enRow4
  have eb8 := qb8.choose_spec.hl; subst eb8
  obtain ⟨ib8, hb8⟩ := Bx.lift qb8.choose_spec hLP
  refine W.seq_k fun K9 hK9 => ?_
  refine W.regionT [(0, true), (1, true)] (by kernel_rfl) ?_
  refine Plan.assign_int rfl rfl ?_
  refine Plan.assign_int rfl rfl ?_
  refine Plan.nil ?_
  refine hK9 _ _ ?_; clear hK9
  refine W.seq_k fun K10 hK10 => ?_
  refine W.seq_k fun K20 hK20 => ?_
  refine W.regionT [(0, true), (1, true), (2, true), (3, true), (4, true), (5, true), (6, true), (7, true), (8, true), (9, true), (10, true), (11, true), (12, true), (13, true), (14, true), (15, true), (16, true), (17, true), (18, true), (19, true), (20, true), (21, true)] (by kernel_rfl) ?_
  refine Plan.move_int rfl rfl ?_
  by_cases hc21 : from_6 < 1
  ·
    replace hR := ifT hR hc21
    refine Plan.cmpV (a := (from_6 : Int)) (b := (1 : Int)) (p := from_6 < 1) (v := true) rfl rfl rfl rfl icmp_lt (decide_eq_true hc21) ?_
    refine Plan.move_bool rfl rfl ?_
    refine Plan.passed rfl ?_
    refine Plan.passed rfl ?_
    refine Plan.passed rfl ?_
    refine Plan.passed rfl ?_
    refine Plan.passed rfl ?_
    refine Plan.passed rfl ?_
    refine Plan.pickTb rfl rfl rfl ?_
    refine Plan.move_bool rfl rfl ?_
    refine Plan.passed rfl ?_
    refine Plan.passed rfl ?_
    refine Plan.pickTb rfl rfl rfl ?_
    refine Plan.move_bool rfl rfl ?_
    refine Plan.passed rfl ?_
    refine Plan.passed rfl ?_
    refine Plan.passed rfl ?_
    refine Plan.passed rfl ?_
    refine Plan.passed rfl ?_
    refine Plan.passed rfl ?_
    refine Plan.pickTb rfl rfl rfl ?_
    refine Plan.nil ?_
    refine hK20 _ _ ?_; clear hK20
    refine W.condT rfl ?_
    refine W.seq_k fun K22 hK22 => ?_
    refine W.regionT [(0, true), (1, true)] (by kernel_rfl) ?_
    refine Plan.assign_int rfl rfl ?_
    refine Plan.assign_int rfl rfl ?_
    refine Plan.nil ?_
    refine hK22 _ _ ?_; clear hK22
    refine W.ret (thenR_ret (finR_ret ?_))
    subst r
    refine RetOk.mk (.tmp_int rfl (.tmp_int rfl .nil)) ?_
    exact ⟨[], anRow4, pnRow4, nRow4.length, cnRow4, FnRow4, rfl, HST, hnRow4⟩
  ·
    replace hR := ifF hR hc21
    refine Plan.cmpV (a := (from_6 : Int)) (b := (1 : Int)) (p := from_6 < 1) (v := false) rfl rfl rfl rfl icmp_lt (decide_eq_false hc21) ?_
    refine Plan.move_bool rfl rfl ?_
    refine Plan.move_int rfl rfl ?_
    refine Plan.move_ptr rfl rfl ?_
    refine Plan.nilCheck rfl rfl ?_
    refine Plan.fieldAddr0 FRef23.fld142_0 rfl rfl ?_
    refine Plan.load0 HST 0 rfl rfl rfl (by omega) FRef23.sc3 ?_
    by_cases hc23 : nNodes2 < from_6
    ·
      replace hR := ifT hR hc23
      refine Plan.cmpV (a := (from_6 : Int)) (b := (nNodes2 : Int)) (p := nNodes2 < from_6) (v := true) rfl rfl rfl rfl icmp_gt (decide_eq_true hc23) ?_
      refine Plan.pickFb rfl rfl rfl ?_
      refine Plan.move_bool rfl rfl ?_
      refine Plan.passed rfl ?_
      refine Plan.passed rfl ?_
      refine Plan.pickTb rfl rfl rfl ?_
      refine Plan.move_bool rfl rfl ?_
      refine Plan.passed rfl ?_
      refine Plan.passed rfl ?_
      refine Plan.passed rfl ?_
      refine Plan.passed rfl ?_
      refine Plan.passed rfl ?_
      refine Plan.passed rfl ?_
      refine Plan.pickTb rfl rfl rfl ?_
      refine Plan.nil ?_
      refine hK20 _ _ ?_; clear hK20
      refine W.condT rfl ?_
      refine W.seq_k fun K24 hK24 => ?_
      refine W.regionT [(0, true), (1, true)] (by kernel_rfl) ?_
      refine Plan.assign_int rfl rfl ?_
      refine Plan.assign_int rfl rfl ?_
      refine Plan.nil ?_
      refine hK24 _ _ ?_; clear hK24
      refine W.ret (thenR_ret (finR_ret ?_))
      subst r
      refine RetOk.mk (.tmp_int rfl (.tmp_int rfl .nil)) ?_
      exact ⟨[], anRow4, pnRow4, nRow4.length, cnRow4, FnRow4, rfl, HST, hnRow4⟩
    ·
      replace hR := ifF hR hc23
      refine Plan.cmpV (a := (from_6 : Int)) (b := (nNodes2 : Int)) (p := nNodes2 < from_6) (v := false) rfl rfl rfl rfl icmp_gt (decide_eq_false hc23) ?_
      refine Plan.pickFb rfl rfl rfl ?_
      refine Plan.move_bool rfl rfl ?_
      refine Plan.move_int rfl rfl ?_
      by_cases hc25 : to7 < 1
      ·
        replace hR := ifT hR hc25
        refine Plan.cmpV (a := (to7 : Int)) (b := (1 : Int)) (p := to7 < 1) (v := true) rfl rfl rfl rfl icmp_lt (decide_eq_true hc25) ?_
        refine Plan.pickFb rfl rfl rfl ?_
        refine Plan.move_bool rfl rfl ?_
        refine Plan.passed rfl ?_
        refine Plan.passed rfl ?_
        refine Plan.passed rfl ?_
        refine Plan.passed rfl ?_
        refine Plan.passed rfl ?_
        refine Plan.passed rfl ?_
        refine Plan.pickTb rfl rfl rfl ?_
        refine Plan.nil ?_
        refine hK20 _ _ ?_; clear hK20
        refine W.condT rfl ?_
        refine W.seq_k fun K26 hK26 => ?_
        refine W.regionT [(0, true), (1, true)] (by kernel_rfl) ?_
        refine Plan.assign_int rfl rfl ?_
        refine Plan.assign_int rfl rfl ?_
        refine Plan.nil ?_
        refine hK26 _ _ ?_; clear hK26
        refine W.ret (thenR_ret (finR_ret ?_))
        subst r
        refine RetOk.mk (.tmp_int rfl (.tmp_int rfl .nil)) ?_
        exact ⟨[], anRow4, pnRow4, nRow4.length, cnRow4, FnRow4, rfl, HST, hnRow4⟩
      ·
        replace hR := ifF hR hc25
        refine Plan.cmpV (a := (to7 : Int)) (b := (1 : Int)) (p := to7 < 1) (v := false) rfl rfl rfl rfl icmp_lt (decide_eq_false hc25) ?_
        refine Plan.pickFb rfl rfl rfl ?_
        refine Plan.move_bool rfl rfl ?_
        refine Plan.move_int rfl rfl ?_
        refine Plan.move_ptr rfl rfl ?_
        refine Plan.nilCheck rfl rfl ?_
        refine Plan.fieldAddr0 FRef23.fld142_0 rfl rfl ?_
        refine Plan.load0 HST 0 rfl rfl rfl (by omega) FRef23.sc3 ?_
        refine Plan.cmpP (a := (to7 : Int)) (b := (nNodes2 : Int)) (p := nNodes2 < to7) rfl rfl rfl rfl icmp_gt ?_
        refine Plan.pickFb rfl rfl rfl ?_
        refine Plan.nil ?_
        refine hK20 _ _ ?_; clear hK20
        by_cases hc27 : nNodes2 < to7
        ·
          replace hR := ifT hR hc27
          refine W.condT (congrArg Value.bool (decide_eq_true hc27)) ?_
          refine W.seq_k fun K28 hK28 => ?_
          refine W.regionT [(0, true), (1, true)] (by kernel_rfl) ?_
          refine Plan.assign_int rfl rfl ?_
          refine Plan.assign_int rfl rfl ?_
          refine Plan.nil ?_
          refine hK28 _ _ ?_; clear hK28
          refine W.ret (thenR_ret (finR_ret ?_))
          subst r
          refine RetOk.mk (.tmp_int rfl (.tmp_int rfl .nil)) ?_
          exact ⟨[], anRow4, pnRow4, nRow4.length, cnRow4, FnRow4, rfl, HST, hnRow4⟩
        ·
          replace hR := ifF hR hc27
          refine W.condF (congrArg Value.bool (decide_eq_false hc27)) ?_
          refine W.skip ?_
          refine hK10 _ _ ?_; clear hK10
          refine W.seq_k fun K29 hK29 => ?_
          refine W.seq_k fun K30 hK30 => ?_
          refine W.regionD FRef23.mixed [(0, true), (1, true), (2, true), (3, true), (4, true), (5, true), (6, true), (7, true), (8, true), (9, true)] (by kernel_rfl) ?_
          have h31 := HST.drew
          refine Plan.move_ptr rfl rfl ?_
          refine Plan.nilCheck rfl rfl ?_
          refine Plan.fieldAddr 2 FRef23.fld142_2 rfl rfl ?_
          refine Plan.load0 h31 2 rfl rfl rfl (by omega) FRef23.sc57 ?_
          refine Plan.len FRef23.isl57 rfl rfl ?_
          refine Plan.move_ptr rfl rfl ?_
          refine Plan.nilCheck rfl rfl ?_
          refine Plan.fieldAddr 1 FRef23.fld142_1 rfl rfl ?_
          refine Plan.load0 h31 1 rfl rfl rfl (by omega) FRef23.sc3 ?_
          refine Plan.cmpP (a := (((nRow4.length : Nat) : Int) : Int)) (b := (nMost3 : Int)) (p := nMost3 ≤ ((nRow4.length : Nat) : Int)) rfl rfl rfl rfl icmp_ge ?_
          refine Plan.nil ?_
          refine hK30 _ _ ?_; clear hK30
          by_cases hc32 : nMost3 ≤ ((nRow4.length : Nat) : Int)
          ·
            replace hR := ifT hR hc32
            refine W.condT (congrArg Value.bool (decide_eq_true hc32)) ?_
            refine W.seq_k fun K33 hK33 => ?_
            refine W.regionT [(0, true), (1, true)] (by kernel_rfl) ?_
            refine Plan.assign_int rfl rfl ?_
            refine Plan.assign_int rfl rfl ?_
            refine Plan.nil ?_
            refine hK33 _ _ ?_; clear hK33
            refine W.ret (thenR_ret (finR_ret ?_))
            subst r
            refine RetOk.mk (.tmp_int rfl (.tmp_int rfl .nil)) ?_
            exact ⟨[], anRow4, pnRow4, nRow4.length, cnRow4, FnRow4, rfl, h31, hnRow4⟩
          ·
            replace hR := ifF hR hc32
            refine W.condF (congrArg Value.bool (decide_eq_false hc32)) ?_
            refine W.skip ?_
            refine hK29 _ _ ?_; clear hK29
            refine W.seq_k fun K34 hK34 => ?_
            refine W.regionT [(0, true), (1, true), (2, true), (3, true), (4, true), (5, false), (6, true), (7, true)] (by kernel_rfl) ?_
            refine Plan.move_ptr rfl rfl ?_
            refine Plan.move_int rfl rfl ?_
            refine Plan.move_int rfl rfl ?_
            refine Plan.move_slice rfl rfl ?_
            refine Plan.buildP (ps := [(1, fun _ => VN 0), (1, fun _ => .int .i64 from_6), (1, fun _ => .int .i64 to7), (1, fun _ => .slice ab8 b8.length cb8)]) FRef23.pl60 (by decide) FRef23.z60 rfl rfl (.one [(1, fun _ => VN 0)] [(1, fun _ => VN 0), (1, fun _ => .slice none 0 0)] (fun _ => VN 0) rfl rfl (.one [(1, fun _ => VN 0), (1, fun _ => .int .i64 from_6)] [(1, fun _ => .slice none 0 0)] (fun _ => VN 0) rfl rfl (.one [(1, fun _ => VN 0), (1, fun _ => .int .i64 from_6), (1, fun _ => .int .i64 to7)] [] (fun _ => .slice none 0 0) rfl rfl .nil))) ?_
            obtain ⟨x_36, x_37, x_38, hr35, hR⟩ := hR
            refine Plan.call (vs := [.pointer (some ⟨bn_1, 0, none⟩), AG [(1, fun _ => VN 0), (1, fun _ => .int .i64 from_6), (1, fun _ => .int .i64 to7), (1, fun _ => .slice ab8 b8.length cb8)]]) rfl FRef23.call94 rfl (letheref23_Net_add_ok (LP := LP) (by exact fun r hr => List.mem_append_right [] (hLP r hr)) (by exact LO.grow D60_lifts (fun r hr => hr) hnRow4) (by exact qb8) hr35 h31) ?_
            rintro _ w44 ⟨C44, aqnRow4_39, pqnRow4_40, nqnRow4_41, cqnRow4_42, FqnRow4_43, rfl, h44, hf44_0⟩
            try dsimp only at hf44_0
            obtain rfl := hf44_0.hl
            replace h44 := St.pool (N := [_, _, _, _, _]) (R := []) h44
            obtain ⟨L, hL45⟩ : ∃ X, X = C44 ++ L := ⟨_, rfl⟩
            obtain ⟨LP, hQ45⟩ : ∃ X, X = C44 ++ LP := ⟨_, rfl⟩
            replace hLP : ∀ r ∈ LP, r ∈ L := by rw [hQ45, hL45]; exact frMemGrow hLP
            have h45 := St.re (N := [_, _, _, _, _]) hL45 h44
            simp only [List.cons_append, List.nil_append] at h45
            replace hFr : Fr2 _ _ L LP := hFr.step hL45 hQ45
            obtain ⟨ix46, hv46⟩ : ∃ i, Bx L i ab8 b8.length cb8 b8 := ⟨_, by rw [hL45]; exact hb8.app _⟩
            have hp46 : ∃ i, Bx LP i ab8 b8.length cb8 b8 := by rw [hQ45]; exact ⟨_, qb8.choose_spec.app _⟩
            have ho47 : LO (D60.at LP) [] aqnRow4_39 pqnRow4_40 ((x_37).length) cqnRow4_42 FqnRow4_43 x_37 := LO.grow D60_lifts (fun r hr => (by rw [hQ45]; exact hr)) hf44_0
            refine ⟨_, rfl, .inl ⟨PIn.keep PIn.nil h45, ?_⟩⟩
            refine Plan.assign_int rfl rfl ?_
            refine Plan.assign_int rfl rfl ?_
            refine Plan.nil ?_
            refine hK34 _ _ ?_; clear hK34
            refine W.ret (finR_ret ?_)
            subst r
            refine RetOk.mk (.tmp_int rfl (.tmp_int rfl .nil)) ?_
            obtain ⟨CF, hx1, hx2⟩ := hFr
            subst hx1
            subst hx2
            exact ⟨_, aqnRow4_39, pqnRow4_40, x_37.length, cqnRow4_42, FqnRow4_43, rfl, h45, ho47⟩


set_option maxRecDepth 8000 in
set_option maxHeartbeats 1000000 in
theorem letheref23_Net_find_ok {B : Nat} {w0 : Base} {w : World} {L : List Rg} {bn_1 : Nat} {nNodes2 : Int} {nMost3 : Int} {nRow4 : List (Int × Int × Int × (List Byte))} {anRow4 : Option Addr} {nnRow4 cnRow4 inRow4 : Nat} (hnRow4 : LV (D60.at L) L inRow4 anRow4 nnRow4 cnRow4 nRow4) {nNumber5 : Int} {k6 : Int} {r : Int} (hR : letheref23_Net_find nNodes2 nMost3 nRow4 nNumber5 k6 r) (HST : St B w0 (⟨some bn_1, 0, 1, fun _ => .int .i64 nNodes2, true⟩ :: ⟨some bn_1, 1, 1, fun _ => .int .i64 nMost3, true⟩ :: ⟨some bn_1, 2, 1, fun _ => .slice anRow4 nnRow4 cnRow4, true⟩ :: ⟨some bn_1, 3, 1, fun _ => .int .i64 nNumber5, true⟩ :: L) w) :
    Calls Try.prog 95 #[.pointer (some ⟨bn_1, 0, none⟩), .int .i64 k6] w fun e w' => e = .returned (.int .i64 r) ∧ St B w0 (⟨some bn_1, 0, 1, fun _ => .int .i64 nNodes2, true⟩ :: ⟨some bn_1, 1, 1, fun _ => .int .i64 nMost3, true⟩ :: ⟨some bn_1, 2, 1, fun _ => .slice anRow4 nnRow4 cnRow4, true⟩ :: ⟨some bn_1, 3, 1, fun _ => .int .i64 nNumber5, true⟩ :: L) w' := by
  refine W.enter 26 Try.func95 rfl rfl rfl ?_
  unfold letheref23_Net_find at hR
  have enRow4 := hnRow4.hl; subst enRow4
  refine W.seq_k fun K7 hK7 => ?_
  refine W.regionT [(0, true)] (by kernel_rfl) ?_
  refine Plan.assign_int rfl rfl ?_
  refine Plan.nil ?_
  refine hK7 _ _ ?_; clear hK7
  refine W.seq_k fun K8 hK8 => ?_
  refine W.seq_k fun K9 hK9 => ?_
  refine W.regionT [(0, true)] (by kernel_rfl) ?_
  refine Plan.assign_int rfl rfl ?_
  refine Plan.nil ?_
  refine hK9 _ _ ?_; clear hK9
  obtain ⟨x31, hI31, hR031⟩ := hR
  refine W.cutN (fun e w => x31 = some () ∧ EnvHas e [] ∧ St B w0 (⟨some bn_1, 0, 1, fun _ => .int .i64 nNodes2, true⟩ :: ⟨some bn_1, 1, 1, fun _ => .int .i64 nMost3, true⟩ :: ⟨some bn_1, 2, 1, fun _ => .slice anRow4 nRow4.length cnRow4, true⟩ :: ⟨some bn_1, 3, 1, fun _ => .int .i64 nNumber5, true⟩ :: L) w) ?_ ?_
  ·
    refine W.block ?_
    refine W.iter hI31 (fun (s31 : Nat) e w => EnvHas e [(0, .pointer (some ⟨bn_1, 0, none⟩)), (1, .int .i64 k6), (5, VN s31)] ∧ St B w0 (⟨some bn_1, 0, 1, fun _ => .int .i64 nNodes2, true⟩ :: ⟨some bn_1, 1, 1, fun _ => .int .i64 nMost3, true⟩ :: ⟨some bn_1, 2, 1, fun _ => .slice anRow4 nRow4.length cnRow4, true⟩ :: ⟨some bn_1, 3, 1, fun _ => .int .i64 nNumber5, true⟩ :: L) w) ⟨(EnvHas.cons rfl (EnvHas.cons rfl (EnvHas.cons rfl EnvHas.nil))), HST⟩ ?_
    rintro i_30 o31 hR hx31 ev32 wl32 ⟨he32, h32⟩
    obtain ⟨ev32, rfl⟩ := he32.open
    unfold letheref23_Net_find_l0 at hR
    refine W.seq_k fun K33 hK33 => ?_
    refine W.seq_k fun K34 hK34 => ?_
    refine W.regionT [(0, true), (1, true), (2, true), (3, true), (4, true), (5, true), (6, true)] (by kernel_rfl) ?_
    refine Plan.move_int rfl rfl ?_
    refine Plan.move_ptr rfl rfl ?_
    refine Plan.nilCheck rfl rfl ?_
    refine Plan.fieldAddr 2 FRef23.fld142_2 rfl rfl ?_
    refine Plan.load0 h32 2 rfl rfl rfl (by omega) FRef23.sc57 ?_
    refine Plan.len FRef23.isl57 rfl rfl ?_
    refine Plan.cmpP (a := (((i_30 : Nat) : Int) : Int)) (b := (((nRow4.length : Nat) : Int) : Int)) (p := i_30 < nRow4.length) rfl rfl rfl rfl icmp_ltN ?_
    refine Plan.nil ?_
    refine hK34 _ _ ?_; clear hK34
    by_cases hc35 : i_30 < nRow4.length
    ·
      replace hR := ifT hR hc35
      refine W.condT (congrArg Value.bool (decide_eq_true hc35)) ?_
      refine W.skip ?_
      refine hK33 _ _ ?_; clear hK33
      refine W.seq_k fun K36 hK36 => ?_
      refine W.block ?_
      refine W.seq_k fun K37 hK37 => ?_
      refine W.regionT [(0, true), (1, true), (2, true), (3, true), (4, true), (5, true), (6, true), (7, true), (8, true), (9, true)] (by kernel_rfl) ?_
      refine Plan.move_ptr rfl rfl ?_
      refine Plan.nilCheck rfl rfl ?_
      refine Plan.fieldAddr 2 FRef23.fld142_2 rfl rfl ?_
      refine Plan.load0 h32 2 rfl rfl rfl (by omega) FRef23.sc57 ?_
      refine Plan.move_int rfl rfl ?_
      obtain ⟨hc38, hR⟩ := hR
      refine Plan.idxLVS (D := (D60.at L)) (j := i_30) h32 (hnRow4.app [_, _, _, _]) FRef23.sl57 rfl rfl rfl hc38 ?_
      refine Plan.fieldLV (D := (D60.at L)) (j := i_30) (sz := 4) h32 0 (hnRow4.app [_, _, _, _]) hc38 FRef23.fld60_0 rfl rfl ?_
      refine Plan.loadLVf (D := (D60.at L)) (X := nRow4) (j := i_30) (sz := 4) (off := 0) h32 ((0 : Int), (0 : Int), (0 : Int), ([] : List Byte)) (fun _ x => .int .i64 x.1) (hnRow4.app [_, _, _, _]) rfl rfl hc38 rfl (by decide) (fun _ _ => rfl) FRef23.sc3 fun b39 r39 hs39 hr39 => ?_
      refine Plan.move_int rfl rfl ?_
      refine Plan.cmpP (a := ((nRow4.getD i_30 ((0 : Int), (0 : Int), (0 : Int), ([] : List Byte))).1 : Int)) (b := (k6 : Int)) (p := (nRow4.getD i_30 ((0 : Int), (0 : Int), (0 : Int), ([] : List Byte))).1 = k6) rfl rfl rfl rfl icmp_eq ?_
      refine Plan.nil ?_
      refine hK37 _ _ ?_; clear hK37
      by_cases hc40 : (nRow4.getD i_30 ((0 : Int), (0 : Int), (0 : Int), ([] : List Byte))).1 = k6
      ·
        replace hR := ifT hR hc40
        refine W.condT (congrArg Value.bool (decide_eq_true hc40)) ?_
        refine W.seq_k fun K41 hK41 => ?_
        refine W.regionT [(0, true), (1, true)] (by kernel_rfl) ?_
        refine Plan.move_int rfl rfl ?_
        refine Plan.assign_int rfl rfl ?_
        refine Plan.nil ?_
        refine hK41 _ _ ?_; clear hK41
        refine W.ret (blockR_ret (thenR_ret (iterR_ret (blockR_ret (thenR_ret (thenR_ret (finR_ret ?_)))))))
        replace hR := hR.2
        subst r
        refine RetOk.mk (.tmp_int rfl .nil) ?_
        exact ⟨rfl, h32⟩
      ·
        replace hR := ifF hR hc40
        refine W.condF (congrArg Value.bool (decide_eq_false hc40)) ?_
        refine W.skip ?_
        refine blockR_norm ?_
        refine hK36 _ _ ?_; clear hK36
        refine W.regionT [(0, true), (1, true), (2, true)] (by kernel_rfl) ?_
        refine Plan.move_int rfl rfl ?_
        obtain ⟨hc42, hR⟩ := hR
        refine Plan.addN (a := i_30) (b := 1) rfl rfl rfl (by omega) ?_
        refine Plan.assign_int rfl rfl ?_
        refine Plan.nil ?_
        exact iterR_norm ⟨_, hR, (EnvHas.cons rfl (EnvHas.cons rfl (EnvHas.cons rfl EnvHas.nil))), h32⟩
    ·
      replace hR := ifF hR hc35
      refine W.condF (congrArg Value.bool (decide_eq_false hc35)) ?_
      refine W.exit (thenR_exit (iterR_exit (blockR_here ?_)))
      exact ⟨(hx31 _ hR).symm, EnvHas.nil, h32⟩
  ·
    rintro ev43 wl43 ⟨hy43, he43, h43⟩
    obtain ⟨ev43, rfl⟩ := he43.open
    replace hR := hR031  hy43
    refine hK8 _ _ ?_; clear hK8
    refine W.seq_k fun K44 hK44 => ?_
    refine W.regionT [(0, true)] (by kernel_rfl) ?_
    refine Plan.assign_int rfl rfl ?_
    refine Plan.nil ?_
    refine hK44 _ _ ?_; clear hK44
    refine W.ret (finR_ret ?_)
    subst r
    refine RetOk.mk (.tmp_int rfl .nil) ?_
    exact ⟨rfl, h43⟩


set_option maxRecDepth 8000 in
set_option maxHeartbeats 1000000 in
theorem letheref23_Net_gone_ok {B : Nat} {w0 : Base} {w : World} {L : List Rg} {LP : List Rg} (hLP : ∀ r ∈ LP, r ∈ L) {bn_1 : Nat} {nNodes2 : Int} {nMost3 : Int} {nRow4 : List (Int × Int × Int × (List Byte))} {anRow4 : Option Addr} {pnRow4 : Option Nat} {nnRow4 cnRow4 : Nat} {FnRow4 : Nat → Value} (hnRow4 : LO (D60.at LP) [] anRow4 pnRow4 nnRow4 cnRow4 FnRow4 nRow4) {nNumber5 : Int} {i_6 : Int} {r : (List (Int × Int × Int × (List Byte)))} (hR : letheref23_Net_gone nNodes2 nMost3 nRow4 nNumber5 i_6 r) (HST : St B w0 (⟨some bn_1, 0, 1, fun _ => .int .i64 nNodes2, true⟩ :: ⟨some bn_1, 1, 1, fun _ => .int .i64 nMost3, true⟩ :: ⟨some bn_1, 2, 1, fun _ => .slice anRow4 nnRow4 cnRow4, true⟩ :: ⟨pnRow4, 0, cnRow4 * 4, FnRow4, true⟩ :: ⟨some bn_1, 3, 1, fun _ => .int .i64 nNumber5, true⟩ :: L) w) :
    Calls Try.prog 96 #[.pointer (some ⟨bn_1, 0, none⟩), .int .i64 i_6] w fun e w' => ∃ C : List Rg, ∃ aqnRow4 : Option Addr, ∃ pqnRow4 : Option Nat, ∃ nqnRow4 : Nat, ∃ cqnRow4 : Nat, ∃ FqnRow4 : Nat → Value, e = .returned (.tuple #[]) ∧ St B w0 (⟨some bn_1, 0, 1, fun _ => .int .i64 nNodes2, true⟩ :: ⟨some bn_1, 1, 1, fun _ => .int .i64 nMost3, true⟩ :: ⟨some bn_1, 2, 1, fun _ => .slice aqnRow4 nqnRow4 cqnRow4, true⟩ :: ⟨pqnRow4, 0, cqnRow4 * 4, FqnRow4, true⟩ :: ⟨some bn_1, 3, 1, fun _ => .int .i64 nNumber5, true⟩ :: (C ++ L)) w' ∧ LO (D60.at (C ++ LP)) [] aqnRow4 pqnRow4 nqnRow4 cqnRow4 FqnRow4 r := by
  refine W.enter 26 Try.func96 rfl rfl rfl ?_
  unfold letheref23_Net_gone at hR
  have hFr : Fr2 L LP L LP := Fr2.refl _ _
  have enRow4 := hnRow4.hl; subst enRow4
  refine W.seq_k fun K7 hK7 => ?_
  refine W.regionT [(0, true)] (by kernel_rfl) ?_
  refine Plan.assign_slice rfl rfl ?_
  refine Plan.nil ?_
  refine hK7 _ _ ?_; clear hK7
  refine W.seq_k fun K8 hK8 => ?_
  refine W.regionT [(0, true), (1, true), (2, true), (3, true), (4, true), (5, true), (6, true), (7, false), (8, true)] (by kernel_rfl) ?_
  refine Plan.move_slice rfl rfl ?_
  refine Plan.move_ptr rfl rfl ?_
  refine Plan.nilCheck rfl rfl ?_
  refine Plan.fieldAddr 2 FRef23.fld142_2 rfl rfl ?_
  refine Plan.load0 HST 2 rfl rfl rfl (by omega) FRef23.sc57 ?_
  refine Plan.move_int rfl rfl ?_
  obtain ⟨hc9, hR⟩ := hR
  obtain ⟨hc10, hR⟩ := hR
  have hm11 : nRow4.length ≤ cnRow4 := hnRow4.hc
  refine Plan.slSl (lo := 0) (hi := i_6.toNat) FRef23.sl57 rfl rfl rfl ⟨_, congrArg (Value.int .i64) (Int.toNat_of_nonneg hc9).symm⟩ (by omega) ?_
  have h13 : St B w0 (⟨none, 0, 0 * 4, fun _ => undef, true⟩ :: _) _ := HST.nilE (fun _ => undef)
  obtain ⟨hc14, hR⟩ := hR
  refine Plan.appendLO (D := (D60.at LP)) (X := ([] : List (Int × Int × Int × (List Byte)))) (Y := (sgl nRow4 0 i_6.toNat)) (sz := 4) h13 (none, 0) ((0 : Int), (0 : Int), (0 : Int), ([] : List Byte)) 0 LO.nil rfl FRef23.el57 rfl FRef23.slu57 rfl rfl rfl rfl (LV.sgl (LO.lvf EL.at_flat hnRow4 4 rfl) (lo := 0) (hi := i_6.toNat) hc10) (fun _ _ h => h) hc14.1 hc14.2 (fun _ => EffO.keep (PIn.cons 3 rfl PIn.nil)) fun a12 pb12 cap12 F12 w12 ho12 h12 => ?_
  simp only [List.cons_append, List.nil_append, List.set_cons_zero, List.set_cons_succ] at h12
  replace ho12 : LO (D60.at LP) [] a12 pb12 (([] : List (Int × Int × Int × (List Byte))) ++ (sgl nRow4 0 i_6.toNat)).length cap12 F12 (([] : List (Int × Int × Int × (List Byte))) ++ (sgl nRow4 0 i_6.toNat)) := ho12.re (fun _ _ h => h)
  refine Plan.assign_slice rfl rfl ?_
  refine Plan.nil ?_
  refine hK8 _ _ ?_; clear hK8
  refine W.seq_k fun K15 hK15 => ?_
  refine W.regionT [(0, true), (1, true), (2, true), (3, true), (4, true), (5, true), (6, true), (7, true), (8, false), (9, true)] (by kernel_rfl) ?_
  refine Plan.move_slice rfl rfl ?_
  refine Plan.move_ptr rfl rfl ?_
  refine Plan.nilCheck rfl rfl ?_
  refine Plan.fieldAddr 2 FRef23.fld142_2 rfl rfl ?_
  refine Plan.load0 h12 3 rfl rfl rfl (by omega) FRef23.sc57 ?_
  refine Plan.move_int rfl rfl ?_
  obtain ⟨hc16, hR⟩ := hR
  refine Plan.addI (a := i_6) (b := 1) rfl rfl rfl (by omega) ?_
  obtain ⟨hc17, hR⟩ := hR
  obtain ⟨hc18, hR⟩ := hR
  have hm19 : nRow4.length ≤ cnRow4 := hnRow4.hc
  refine Plan.slSl (lo := (i_6 + 1).toNat) (hi := nRow4.length) FRef23.sl57 rfl rfl ⟨_, congrArg (Value.int .i64) (Int.toNat_of_nonneg hc17).symm⟩ rfl (by omega) ?_
  obtain ⟨hc21, hR⟩ := hR
  refine Plan.appendLO (D := (D60.at LP)) (X := (([] : List (Int × Int × Int × (List Byte))) ++ (sgl nRow4 0 i_6.toNat))) (Y := (sgl nRow4 ((i_6 + 1).toNat) nRow4.length)) (sz := 4) h12 (none, 0) ((0 : Int), (0 : Int), (0 : Int), ([] : List Byte)) 0 ho12 rfl FRef23.el57 rfl FRef23.slu57 rfl rfl rfl rfl (LV.sgl (LO.lvf EL.at_flat hnRow4 4 rfl) (lo := (i_6 + 1).toNat) (hi := nRow4.length) hc18) (fun _ _ h => h) hc21.1 hc21.2 (fun _ => EffO.keep (PIn.cons 3 rfl PIn.nil)) fun a20 pb20 cap20 F20 w20 ho20 h20 => ?_
  simp only [List.cons_append, List.nil_append, List.set_cons_zero, List.set_cons_succ] at h20
  replace ho20 : LO (D60.at LP) [] a20 pb20 ((([] : List (Int × Int × Int × (List Byte))) ++ (sgl nRow4 0 i_6.toNat)) ++ (sgl nRow4 ((i_6 + 1).toNat) nRow4.length)).length cap20 F20 ((([] : List (Int × Int × Int × (List Byte))) ++ (sgl nRow4 0 i_6.toNat)) ++ (sgl nRow4 ((i_6 + 1).toNat) nRow4.length)) := ho20.re (fun _ _ h => h)
  refine Plan.assign_slice rfl rfl ?_
  refine Plan.nil ?_
  refine hK15 _ _ ?_; clear hK15
  refine W.regionT [(0, true), (1, true), (2, true), (3, true), (4, false)] (by kernel_rfl) ?_
  refine Plan.move_ptr rfl rfl ?_
  refine Plan.move_slice rfl rfl ?_
  refine Plan.nilCheck rfl rfl ?_
  refine Plan.fieldAddr 2 FRef23.fld142_2 rfl rfl ?_
  refine Plan.storeC h20 3 rfl rfl rfl rfl rfl FRef23.sz57 rfl fun w22 h22 => ?_
  simp only [List.cons_append, List.nil_append, List.set_cons_zero, List.set_cons_succ] at h22
  refine Plan.nil ?_
  refine finR_norm ?_
  have h23 := St.pickT (C := [_, _, _, _, _, _]) h22 [1, 2, 3, 0, 5] (by decide)
  simp only [pick, List.filterMap_cons, List.filterMap_nil, List.getElem?_cons_zero, List.getElem?_cons_succ, List.cons_append, List.nil_append] at h23
  subst r
  refine RetOk.mk .nil ?_
  exact ⟨[], a20, pb20, ((([] : List (Int × Int × Int × (List Byte))) ++ (sgl nRow4 0 i_6.toNat)) ++ (sgl nRow4 ((i_6 + 1).toNat) nRow4.length)).length, cap20, F20, rfl, h23, ho20⟩


set_option maxRecDepth 8000 in
set_option maxHeartbeats 1000000 in
theorem letheref23_Net_Deliver_ok {B : Nat} {w0 : Base} {w : World} {L : List Rg} {LP : List Rg} (hLP : ∀ r ∈ LP, r ∈ L) {bn_1 : Nat} {nNodes2 : Int} {nMost3 : Int} {nRow4 : List (Int × Int × Int × (List Byte))} {anRow4 : Option Addr} {pnRow4 : Option Nat} {nnRow4 cnRow4 : Nat} {FnRow4 : Nat → Value} (hnRow4 : LO (D60.at LP) [] anRow4 pnRow4 nnRow4 cnRow4 FnRow4 nRow4) {nNumber5 : Int} {k6 : Int} {r : (Int × Int × Int × (List Byte) × Nat × (List (Int × Int × Int × (List Byte))))} (hR : letheref23_Net_Deliver nNodes2 nMost3 nRow4 nNumber5 k6 r) (HST : St B w0 (⟨some bn_1, 0, 1, fun _ => .int .i64 nNodes2, true⟩ :: ⟨some bn_1, 1, 1, fun _ => .int .i64 nMost3, true⟩ :: ⟨some bn_1, 2, 1, fun _ => .slice anRow4 nnRow4 cnRow4, true⟩ :: ⟨pnRow4, 0, cnRow4 * 4, FnRow4, true⟩ :: ⟨some bn_1, 3, 1, fun _ => .int .i64 nNumber5, true⟩ :: L) w) :
    Calls Try.prog 73 #[.pointer (some ⟨bn_1, 0, none⟩), .int .i64 k6] w fun e w' => ∃ C : List Rg, ∃ iy0_3 : Nat, ∃ ay0_3 : Option Addr, ∃ cy0_3 : Nat, ∃ aqnRow4 : Option Addr, ∃ pqnRow4 : Option Nat, ∃ nqnRow4 : Nat, ∃ cqnRow4 : Nat, ∃ FqnRow4 : Nat → Value, e = .returned (.tuple #[AG [(1, fun _ => .int .i64 r.1), (1, fun _ => .int .i64 r.2.1), (1, fun _ => .int .i64 r.2.2.1), (1, fun _ => .slice ay0_3 r.2.2.2.1.length cy0_3)], VN r.2.2.2.2.1]) ∧ St B w0 (⟨some bn_1, 0, 1, fun _ => .int .i64 nNodes2, true⟩ :: ⟨some bn_1, 1, 1, fun _ => .int .i64 nMost3, true⟩ :: ⟨some bn_1, 2, 1, fun _ => .slice aqnRow4 nqnRow4 cqnRow4, true⟩ :: ⟨pqnRow4, 0, cqnRow4 * 4, FqnRow4, true⟩ :: ⟨some bn_1, 3, 1, fun _ => .int .i64 nNumber5, true⟩ :: (C ++ L)) w' ∧ Bx (C ++ LP) iy0_3 ay0_3 r.2.2.2.1.length cy0_3 r.2.2.2.1 ∧ LO (D60.at (C ++ LP)) [] aqnRow4 pqnRow4 nqnRow4 cqnRow4 FqnRow4 r.2.2.2.2.2 := by
  refine W.enter 26 Try.func73 rfl rfl rfl ?_
  unfold letheref23_Net_Deliver at hR
  have hFr : Fr2 L LP L LP := Fr2.refl _ _
  have enRow4 := hnRow4.hl; subst enRow4
  refine W.seq_k fun K7 hK7 => ?_
  refine W.regionT [(0, false), (1, true)] (by kernel_rfl) ?_
  refine Plan.alloc HST rfl FRef23.z60 PIn.nil fun b8 w8 hb8 h8 => ?_
  simp only [rngs, Nat.zero_add, Nat.reduceAdd, List.cons_append, List.nil_append] at h8
  refine Plan.assign_int rfl rfl ?_
  refine Plan.nil ?_
  refine hK7 _ _ ?_; clear hK7
  refine W.seq_k fun K9 hK9 => ?_
  refine W.regionT [(0, true), (1, true), (2, false), (3, true)] (by kernel_rfl) ?_
  refine Plan.move_ptr rfl rfl ?_
  refine Plan.move_int rfl rfl ?_
  have h10 := St.pickT (C := [_, _, _, _, _, _, _, _, _]) h8 [4, 5, 6, 8, 0, 1, 2, 3, 7] (by decide)
  simp only [pick, List.filterMap_cons, List.filterMap_nil, List.getElem?_cons_zero, List.getElem?_cons_succ, List.cons_append, List.nil_append] at h10
  obtain ⟨x_12, hr11, hR⟩ := hR
  refine Plan.call (vs := [.pointer (some ⟨bn_1, 0, none⟩), .int .i64 k6]) rfl FRef23.call95 rfl (letheref23_Net_find_ok (by exact (LV.grow D60_lifts (fun r hr => List.mem_append_right [_, _, _, _, _] (hLP r hr)) (LO.lvf EL.at_flat hnRow4 4 rfl))) hr11 h10) ?_
  rintro _ w13 ⟨rfl, h13⟩
  refine ⟨_, rfl, .inl ⟨PIn.keep PIn.nil h13, ?_⟩⟩
  refine Plan.assign_int rfl rfl ?_
  refine Plan.nil ?_
  refine hK9 _ _ ?_; clear hK9
  refine W.seq_k fun K14 hK14 => ?_
  refine W.seq_k fun K15 hK15 => ?_
  refine W.regionT [(0, true), (1, true)] (by kernel_rfl) ?_
  refine Plan.move_int rfl rfl ?_
  refine Plan.cmpP (a := (x_12 : Int)) (b := (0 : Int)) (p := x_12 < 0) rfl rfl rfl rfl icmp_lt ?_
  refine Plan.nil ?_
  refine hK15 _ _ ?_; clear hK15
  by_cases hc16 : x_12 < 0
  ·
    replace hR := ifT hR hc16
    refine W.condT (congrArg Value.bool (decide_eq_true hc16)) ?_
    refine W.seq_k fun K17 hK17 => ?_
    refine W.regionT [(0, true), (1, false), (2, true)] (by kernel_rfl) ?_
    refine Plan.buildZ FRef23.row60 FRef23.z60 rfl ?_
    refine Plan.storeP (ps := [(1, fun _ => VN 0), (1, fun _ => VN 0), (1, fun _ => VN 0), (1, fun _ => .slice none 0 0)]) h13 rfl rfl rfl (.cons 4 rfl (.cons 5 rfl (.cons 6 rfl (.cons 7 rfl .nil)))) ⟨fun _ _ => rfl, fun _ _ => rfl, fun _ _ => rfl, fun _ _ => rfl, trivial⟩ FRef23.sz60 (EffO.keep PIn.nil) fun w18 h18 => ?_
    simp only [List.cons_append, List.nil_append, List.set_cons_zero, List.set_cons_succ] at h18
    refine Plan.assign_int rfl rfl ?_
    refine Plan.nil ?_
    refine hK17 _ _ ?_; clear hK17
    refine W.ret (thenR_ret (finR_ret ?_))
    obtain ⟨iz19, hz19⟩ : ∃ i, Bx LP i _ _ _ _ := ⟨_, Bx.nil 0⟩
    have h20 := St.pickT (C := [_, _, _, _, _, _, _, _, _]) h18 [0, 1, 2, 8, 3] (by decide)
    simp only [pick, List.filterMap_cons, List.filterMap_nil, List.getElem?_cons_zero, List.getElem?_cons_succ, List.cons_append, List.nil_append] at h20
    subst r
    refine RetOk.mk (.agg h18 rfl (.cons 4 rfl (.cons 5 rfl (.cons 6 rfl (.cons 7 rfl .nil)))) FRef23.agg60 (.tmp_int rfl .nil)) ?_
    exact ⟨[], iz19, none, 0, anRow4, pnRow4, nRow4.length, cnRow4, FnRow4, rfl, h20, hz19, hnRow4⟩
  ·
    replace hR := ifF hR hc16
    refine W.condF (congrArg Value.bool (decide_eq_false hc16)) ?_
    refine W.skip ?_
    refine hK14 _ _ ?_; clear hK14
    refine W.seq_k fun K21 hK21 => ?_
    refine W.regionT [(0, true), (1, true), (2, true), (3, false), (4, true), (5, true), (6, true), (7, false), (8, false), (9, false)] (by kernel_rfl) ?_
    refine Plan.move_ptr rfl rfl ?_
    refine Plan.nilCheck rfl rfl ?_
    refine Plan.fieldAddr 2 FRef23.fld142_2 rfl rfl ?_
    refine Plan.sync ?_
    refine Plan.load0 h13 2 rfl rfl rfl (by omega) FRef23.sc57 ?_
    refine Plan.nil ?_
    refine Plan.move_int rfl rfl ?_
    obtain ⟨hc22, hR⟩ := hR
    refine Plan.idxLVS (D := (D60.at LP)) (j := x_12.toNat) h13 (LO.lvf EL.at_flat hnRow4 8 rfl) FRef23.sl57 rfl rfl (congrArg (Value.int .i64) (Int.toNat_of_nonneg hc22.1).symm) (toNat_lt hc22.1 hc22.2) ?_
    refine Plan.loadLV (D := (D60.at LP)) (X := nRow4) (j := x_12.toNat) (sz := 4) h13 ((0 : Int), (0 : Int), (0 : Int), ([] : List Byte)) (LO.lvf EL.at_flat hnRow4 8 rfl) rfl rfl (toNat_lt hc22.1 hc22.2) rfl FRef23.agg60 fun b23 r23 hs23 hr23 => ?_
    obtain ⟨i23_3, hv23_3⟩ := hs23
    have hp23_3 : ∃ i, Bx LP i _ _ _ _ := ⟨_, hv23_3⟩
    obtain ⟨i23_3, hv23_3⟩ := Bx.lift hv23_3 hLP
    obtain ⟨x_25, x_26, x_27, x_28, hr24, hR⟩ := hR
    refine Plan.call (vs := [AG [(1, fun _ => .int .i64 ((nRow4.getD x_12.toNat ((0 : Int), (0 : Int), (0 : Int), ([] : List Byte))).1)), (1, fun _ => .int .i64 ((nRow4.getD x_12.toNat ((0 : Int), (0 : Int), (0 : Int), ([] : List Byte))).2.1)), (1, fun _ => .int .i64 ((nRow4.getD x_12.toNat ((0 : Int), (0 : Int), (0 : Int), ([] : List Byte))).2.2.1)), (1, fun _ => .slice ((b23).1) (((nRow4.getD x_12.toNat ((0 : Int), (0 : Int), (0 : Int), ([] : List Byte))).2.2.2).length) ((b23).2))]]) rfl FRef23.call76 rfl (letheref23_Twin_ok (hv23_3.app [_, _, _, _, _, _, _, _, _]) hr24 h13) ?_
    rintro _ w32 ⟨C32, iy0_3_29, ay0_3_30, cy0_3_31, rfl, h32, hf32_0⟩
    try dsimp only at hf32_0
    replace h32 := St.pool (N := []) (R := [_, _, _, _, _, _, _, _, _]) h32
    obtain ⟨L, hL33⟩ : ∃ X, X = C32 ++ L := ⟨_, rfl⟩
    obtain ⟨LP, hQ33⟩ : ∃ X, X = C32 ++ LP := ⟨_, rfl⟩
    replace hLP : ∀ r ∈ LP, r ∈ L := by rw [hQ33, hL33]; exact frMemGrow hLP
    have h33 := St.re (N := [_, _, _, _, _, _, _, _, _]) hL33 h32
    simp only [List.cons_append, List.nil_append] at h33
    replace hFr : Fr2 _ _ L LP := hFr.step hL33 hQ33
    obtain ⟨ix34, hv34⟩ : ∃ i, Bx L i ((b23).1) (((nRow4.getD x_12.toNat ((0 : Int), (0 : Int), (0 : Int), ([] : List Byte))).2.2.2).length) ((b23).2) ((nRow4.getD x_12.toNat ((0 : Int), (0 : Int), (0 : Int), ([] : List Byte))).2.2.2) := ⟨_, by rw [hL33]; exact hv23_3.app _⟩
    have hp34 : ∃ i, Bx LP i ((b23).1) (((nRow4.getD x_12.toNat ((0 : Int), (0 : Int), (0 : Int), ([] : List Byte))).2.2.2).length) ((b23).2) ((nRow4.getD x_12.toNat ((0 : Int), (0 : Int), (0 : Int), ([] : List Byte))).2.2.2) := by rw [hQ33]; exact ⟨_, hp23_3.choose_spec.app _⟩
    have ho35 : LO (D60.at LP) [] anRow4 pnRow4 ((nRow4).length) cnRow4 FnRow4 nRow4 := by rw [hQ33]; exact LO.grow D60_lifts (fun r hr => List.mem_append_right _ hr) hnRow4
    have hp36 : ∃ i, Bx LP i ay0_3_30 x_28.length cy0_3_31 x_28 := by rw [hQ33]; exact Bx.lift hf32_0 (fun r hr => List.mem_append_left _ hr)
    obtain ⟨ix36, hv36⟩ := Bx.lift hp36.choose_spec hLP
    refine ⟨_, rfl, .inr ⟨rfl, ?_⟩⟩
    refine Plan.alloc h33 rfl FRef23.z60 PIn.nil fun b37 w37 hb37 h37 => ?_
    simp only [rngs, Nat.zero_add, Nat.reduceAdd, List.cons_append, List.nil_append] at h37
    refine Plan.storeP (ps := [(1, fun _ => .int .i64 x_25), (1, fun _ => .int .i64 x_26), (1, fun _ => .int .i64 x_27), (1, fun _ => .slice ay0_3_30 x_28.length cy0_3_31)]) h37 rfl rfl rfl (.cons 0 rfl (.cons 1 rfl (.cons 2 rfl (.cons 3 rfl .nil)))) ⟨fun _ _ => rfl, fun _ _ => rfl, fun _ _ => rfl, fun _ _ => rfl, trivial⟩ FRef23.sz60 (EffO.keep PIn.nil) fun w38 h38 => ?_
    simp only [List.cons_append, List.nil_append, List.set_cons_zero, List.set_cons_succ] at h38
    refine Plan.nil ?_
    refine hK21 _ _ ?_; clear hK21
    refine W.seq_k fun K39 hK39 => ?_
    refine W.regionT [(0, true), (1, true), (2, false)] (by kernel_rfl) ?_
    refine Plan.move_ptr rfl rfl ?_
    refine Plan.move_int rfl rfl ?_
    have h40 := St.pickT (C := [_, _, _, _, _, _, _, _, _, _, _, _, _]) h38 [4, 5, 6, 12, 7, 0, 1, 2, 3, 8, 9, 10, 11] (by decide)
    simp only [pick, List.filterMap_cons, List.filterMap_nil, List.getElem?_cons_zero, List.getElem?_cons_succ, List.cons_append, List.nil_append] at h40
    obtain ⟨x_42, hr41, hR⟩ := hR
    refine Plan.call (vs := [.pointer (some ⟨bn_1, 0, none⟩), .int .i64 x_12]) rfl FRef23.call96 rfl (letheref23_Net_gone_ok (LP := LP) (by exact fun r hr => List.mem_append_right [_, _, _, _, _, _, _, _] (hLP r hr)) (by exact LO.grow D60_lifts (fun r hr => hr) ho35) hr41 h40) ?_
    rintro _ w48 ⟨C48, aqnRow4_43, pqnRow4_44, nqnRow4_45, cqnRow4_46, FqnRow4_47, rfl, h48, hf48_0⟩
    obtain rfl := hf48_0.hl
    replace h48 := St.pool (N := [_, _, _, _, _]) (R := [_, _, _, _, _, _, _, _]) h48
    obtain ⟨L, hL49⟩ : ∃ X, X = C48 ++ L := ⟨_, rfl⟩
    obtain ⟨LP, hQ49⟩ : ∃ X, X = C48 ++ LP := ⟨_, rfl⟩
    replace hLP : ∀ r ∈ LP, r ∈ L := by rw [hQ49, hL49]; exact frMemGrow hLP
    have h49 := St.re (N := [_, _, _, _, _, _, _, _, _, _, _, _, _]) hL49 h48
    simp only [List.cons_append, List.nil_append] at h49
    replace hFr : Fr2 _ _ L LP := hFr.step hL49 hQ49
    obtain ⟨ix50, hv50⟩ : ∃ i, Bx L i ((b23).1) (((nRow4.getD x_12.toNat ((0 : Int), (0 : Int), (0 : Int), ([] : List Byte))).2.2.2).length) ((b23).2) ((nRow4.getD x_12.toNat ((0 : Int), (0 : Int), (0 : Int), ([] : List Byte))).2.2.2) := ⟨_, by rw [hL49]; exact hv34.app _⟩
    have hp50 : ∃ i, Bx LP i ((b23).1) (((nRow4.getD x_12.toNat ((0 : Int), (0 : Int), (0 : Int), ([] : List Byte))).2.2.2).length) ((b23).2) ((nRow4.getD x_12.toNat ((0 : Int), (0 : Int), (0 : Int), ([] : List Byte))).2.2.2) := by rw [hQ49]; exact ⟨_, hp34.choose_spec.app _⟩
    obtain ⟨ix51, hv51⟩ : ∃ i, Bx L i ay0_3_30 x_28.length cy0_3_31 x_28 := ⟨_, by rw [hL49]; exact hv36.app _⟩
    have hp51 : ∃ i, Bx LP i ay0_3_30 x_28.length cy0_3_31 x_28 := by rw [hQ49]; exact ⟨_, hp36.choose_spec.app _⟩
    have ho52 : LO (D60.at LP) [] aqnRow4_43 pqnRow4_44 ((x_42).length) cqnRow4_46 FqnRow4_47 x_42 := LO.grow D60_lifts (fun r hr => (by rw [hQ49]; exact hr)) hf48_0
    refine ⟨_, rfl, .inl ⟨PIn.keep PIn.nil h49, ?_⟩⟩
    refine Plan.nil ?_
    refine hK39 _ _ ?_; clear hK39
    refine W.seq_k fun K53 hK53 => ?_
    refine W.regionT [(0, true), (1, false), (2, true)] (by kernel_rfl) ?_
    refine Plan.loadA h49 rfl rfl (.cons 5 rfl (.cons 6 rfl (.cons 7 rfl (.cons 8 rfl .nil)))) FRef23.agg60 ?_
    refine Plan.storeP (ps := [(1, fun _ => .int .i64 x_25), (1, fun _ => .int .i64 x_26), (1, fun _ => .int .i64 x_27), (1, fun _ => .slice ay0_3_30 x_28.length cy0_3_31)]) h49 rfl rfl rfl (.cons 9 rfl (.cons 10 rfl (.cons 11 rfl (.cons 12 rfl .nil)))) ⟨fun _ _ => rfl, fun _ _ => rfl, fun _ _ => rfl, fun _ _ => rfl, trivial⟩ FRef23.sz60 (EffO.wait rfl) fun w54 h54 => ?_
    simp only [List.cons_append, List.nil_append, List.set_cons_zero, List.set_cons_succ] at h54
    refine Plan.assign_int rfl rfl ?_
    refine Plan.nil ?_
    refine hK53 _ _ ?_; clear hK53
    refine W.ret (finR_ret ?_)
    obtain ⟨iz55, hz55⟩ : ∃ i, Bx LP i _ _ _ _ := hp51
    have h56 := St.pickT (C := [_, _, _, _, _, _, _, _, _, _, _, _, _]) h54 [0, 1, 2, 3, 4] (by decide)
    simp only [pick, List.filterMap_cons, List.filterMap_nil, List.getElem?_cons_zero, List.getElem?_cons_succ, List.cons_append, List.nil_append] at h56
    subst r
    refine RetOk.mk (.agg h54 rfl (.cons 9 rfl (.cons 10 rfl (.cons 11 rfl (.cons 12 rfl .nil)))) FRef23.agg60 (.tmp_int rfl .nil)) ?_
    obtain ⟨CF, hx1, hx2⟩ := hFr
    subst hx1
    subst hx2
    exact ⟨_, iz55, ay0_3_30, cy0_3_31, aqnRow4_43, pqnRow4_44, x_42.length, cqnRow4_46, FqnRow4_47, rfl, h56, hz55, ho52⟩


set_option maxRecDepth 8000 in
set_option maxHeartbeats 1000000 in
theorem letheref23_Net_Drop_ok {B : Nat} {w0 : Base} {w : World} {L : List Rg} {LP : List Rg} (hLP : ∀ r ∈ LP, r ∈ L) {bn_1 : Nat} {nNodes2 : Int} {nMost3 : Int} {nRow4 : List (Int × Int × Int × (List Byte))} {anRow4 : Option Addr} {pnRow4 : Option Nat} {nnRow4 cnRow4 : Nat} {FnRow4 : Nat → Value} (hnRow4 : LO (D60.at LP) [] anRow4 pnRow4 nnRow4 cnRow4 FnRow4 nRow4) {nNumber5 : Int} {k6 : Int} {r : (Nat × (List (Int × Int × Int × (List Byte))))} (hR : letheref23_Net_Drop nNodes2 nMost3 nRow4 nNumber5 k6 r) (HST : St B w0 (⟨some bn_1, 0, 1, fun _ => .int .i64 nNodes2, true⟩ :: ⟨some bn_1, 1, 1, fun _ => .int .i64 nMost3, true⟩ :: ⟨some bn_1, 2, 1, fun _ => .slice anRow4 nnRow4 cnRow4, true⟩ :: ⟨pnRow4, 0, cnRow4 * 4, FnRow4, true⟩ :: ⟨some bn_1, 3, 1, fun _ => .int .i64 nNumber5, true⟩ :: L) w) :
    Calls Try.prog 74 #[.pointer (some ⟨bn_1, 0, none⟩), .int .i64 k6] w fun e w' => ∃ C : List Rg, ∃ aqnRow4 : Option Addr, ∃ pqnRow4 : Option Nat, ∃ nqnRow4 : Nat, ∃ cqnRow4 : Nat, ∃ FqnRow4 : Nat → Value, e = .returned (VN r.1) ∧ St B w0 (⟨some bn_1, 0, 1, fun _ => .int .i64 nNodes2, true⟩ :: ⟨some bn_1, 1, 1, fun _ => .int .i64 nMost3, true⟩ :: ⟨some bn_1, 2, 1, fun _ => .slice aqnRow4 nqnRow4 cqnRow4, true⟩ :: ⟨pqnRow4, 0, cqnRow4 * 4, FqnRow4, true⟩ :: ⟨some bn_1, 3, 1, fun _ => .int .i64 nNumber5, true⟩ :: (C ++ L)) w' ∧ LO (D60.at (C ++ LP)) [] aqnRow4 pqnRow4 nqnRow4 cqnRow4 FqnRow4 r.2 := by
  refine W.enter 14 Try.func74 rfl rfl rfl ?_
  unfold letheref23_Net_Drop at hR
  have hFr : Fr2 L LP L LP := Fr2.refl _ _
  have enRow4 := hnRow4.hl; subst enRow4
  refine W.seq_k fun K7 hK7 => ?_
  refine W.regionT [(0, true)] (by kernel_rfl) ?_
  refine Plan.assign_int rfl rfl ?_
  refine Plan.nil ?_
  refine hK7 _ _ ?_; clear hK7
  refine W.seq_k fun K8 hK8 => ?_
  refine W.regionT [(0, true), (1, true), (2, false), (3, true)] (by kernel_rfl) ?_
  refine Plan.move_ptr rfl rfl ?_
  refine Plan.move_int rfl rfl ?_
  have h9 := St.pickT (C := [_, _, _, _, _]) HST [0, 1, 2, 4, 3] (by decide)
  simp only [pick, List.filterMap_cons, List.filterMap_nil, List.getElem?_cons_zero, List.getElem?_cons_succ, List.cons_append, List.nil_append] at h9
  obtain ⟨x_11, hr10, hR⟩ := hR
  refine Plan.call (vs := [.pointer (some ⟨bn_1, 0, none⟩), .int .i64 k6]) rfl FRef23.call95 rfl (letheref23_Net_find_ok (by exact (LV.grow D60_lifts (fun r hr => List.mem_append_right [_] (hLP r hr)) (LO.lvf EL.at_flat hnRow4 0 rfl))) hr10 h9) ?_
  rintro _ w12 ⟨rfl, h12⟩
  refine ⟨_, rfl, .inl ⟨PIn.keep PIn.nil h12, ?_⟩⟩
  refine Plan.assign_int rfl rfl ?_
  refine Plan.nil ?_
  refine hK8 _ _ ?_; clear hK8
  refine W.seq_k fun K13 hK13 => ?_
  refine W.seq_k fun K14 hK14 => ?_
  refine W.regionT [(0, true), (1, true)] (by kernel_rfl) ?_
  refine Plan.move_int rfl rfl ?_
  refine Plan.cmpP (a := (x_11 : Int)) (b := (0 : Int)) (p := x_11 < 0) rfl rfl rfl rfl icmp_lt ?_
  refine Plan.nil ?_
  refine hK14 _ _ ?_; clear hK14
  by_cases hc15 : x_11 < 0
  ·
    replace hR := ifT hR hc15
    refine W.condT (congrArg Value.bool (decide_eq_true hc15)) ?_
    refine W.seq_k fun K16 hK16 => ?_
    refine W.regionT [(0, true)] (by kernel_rfl) ?_
    refine Plan.assign_int rfl rfl ?_
    refine Plan.nil ?_
    refine hK16 _ _ ?_; clear hK16
    refine W.ret (thenR_ret (finR_ret ?_))
    have h17 := St.pickT (C := [_, _, _, _, _]) h12 [0, 1, 2, 4, 3] (by decide)
    simp only [pick, List.filterMap_cons, List.filterMap_nil, List.getElem?_cons_zero, List.getElem?_cons_succ, List.cons_append, List.nil_append] at h17
    subst r
    refine RetOk.mk (.tmp_int rfl .nil) ?_
    exact ⟨[], anRow4, pnRow4, nRow4.length, cnRow4, FnRow4, rfl, h17, hnRow4⟩
  ·
    replace hR := ifF hR hc15
    refine W.condF (congrArg Value.bool (decide_eq_false hc15)) ?_
    refine W.skip ?_
    refine hK13 _ _ ?_; clear hK13
    refine W.seq_k fun K18 hK18 => ?_
    refine W.regionT [(0, true), (1, true), (2, false)] (by kernel_rfl) ?_
    refine Plan.move_ptr rfl rfl ?_
    refine Plan.move_int rfl rfl ?_
    have h19 := St.pickT (C := [_, _, _, _, _]) h12 [0, 1, 2, 4, 3] (by decide)
    simp only [pick, List.filterMap_cons, List.filterMap_nil, List.getElem?_cons_zero, List.getElem?_cons_succ, List.cons_append, List.nil_append] at h19
    obtain ⟨x_21, hr20, hR⟩ := hR
    refine Plan.call (vs := [.pointer (some ⟨bn_1, 0, none⟩), .int .i64 x_11]) rfl FRef23.call96 rfl (letheref23_Net_gone_ok (LP := LP) (by exact fun r hr => List.mem_append_right [] (hLP r hr)) (by exact LO.grow D60_lifts (fun r hr => hr) hnRow4) hr20 h19) ?_
    rintro _ w27 ⟨C27, aqnRow4_22, pqnRow4_23, nqnRow4_24, cqnRow4_25, FqnRow4_26, rfl, h27, hf27_0⟩
    obtain rfl := hf27_0.hl
    replace h27 := St.pool (N := [_, _, _, _, _]) (R := []) h27
    obtain ⟨L, hL28⟩ : ∃ X, X = C27 ++ L := ⟨_, rfl⟩
    obtain ⟨LP, hQ28⟩ : ∃ X, X = C27 ++ LP := ⟨_, rfl⟩
    replace hLP : ∀ r ∈ LP, r ∈ L := by rw [hQ28, hL28]; exact frMemGrow hLP
    have h28 := St.re (N := [_, _, _, _, _]) hL28 h27
    simp only [List.cons_append, List.nil_append] at h28
    replace hFr : Fr2 _ _ L LP := hFr.step hL28 hQ28
    have ho29 : LO (D60.at LP) [] aqnRow4_22 pqnRow4_23 ((x_21).length) cqnRow4_25 FqnRow4_26 x_21 := LO.grow D60_lifts (fun r hr => (by rw [hQ28]; exact hr)) hf27_0
    refine ⟨_, rfl, .inl ⟨PIn.keep PIn.nil h28, ?_⟩⟩
    refine Plan.nil ?_
    refine hK18 _ _ ?_; clear hK18
    refine W.seq_k fun K30 hK30 => ?_
    refine W.regionT [(0, true)] (by kernel_rfl) ?_
    refine Plan.assign_int rfl rfl ?_
    refine Plan.nil ?_
    refine hK30 _ _ ?_; clear hK30
    refine W.ret (finR_ret ?_)
    subst r
    refine RetOk.mk (.tmp_int rfl .nil) ?_
    obtain ⟨CF, hx1, hx2⟩ := hFr
    subst hx1
    subst hx2
    exact ⟨_, aqnRow4_22, pqnRow4_23, x_21.length, cqnRow4_25, FqnRow4_26, rfl, h28, ho29⟩


set_option maxRecDepth 8000 in
set_option maxHeartbeats 1000000 in
theorem letheref23_Net_Copy_ok {B : Nat} {w0 : Base} {w : World} {L : List Rg} {LP : List Rg} (hLP : ∀ r ∈ LP, r ∈ L) {bn_1 : Nat} {nNodes2 : Int} {nMost3 : Int} {nRow4 : List (Int × Int × Int × (List Byte))} {anRow4 : Option Addr} {pnRow4 : Option Nat} {nnRow4 cnRow4 : Nat} {FnRow4 : Nat → Value} (hnRow4 : LO (D60.at LP) [] anRow4 pnRow4 nnRow4 cnRow4 FnRow4 nRow4) {nNumber5 : Int} {k6 : Int} {r : (Int × Nat × (List (Int × Int × Int × (List Byte))) × Int)} (hR : letheref23_Net_Copy nNodes2 nMost3 nRow4 nNumber5 k6 r) (HST : St B w0 (⟨some bn_1, 0, 1, fun _ => .int .i64 nNodes2, true⟩ :: ⟨some bn_1, 1, 1, fun _ => .int .i64 nMost3, true⟩ :: ⟨some bn_1, 2, 1, fun _ => .slice anRow4 nnRow4 cnRow4, true⟩ :: ⟨pnRow4, 0, cnRow4 * 4, FnRow4, true⟩ :: ⟨some bn_1, 3, 1, fun _ => .int .i64 nNumber5, true⟩ :: L) w) :
    Calls Try.prog 75 #[.pointer (some ⟨bn_1, 0, none⟩), .int .i64 k6] w fun e w' => ∃ C : List Rg, ∃ aqnRow4 : Option Addr, ∃ pqnRow4 : Option Nat, ∃ nqnRow4 : Nat, ∃ cqnRow4 : Nat, ∃ FqnRow4 : Nat → Value, e = .returned (.tuple #[.int .i64 r.1, VN r.2.1]) ∧ St B w0 (⟨some bn_1, 0, 1, fun _ => .int .i64 nNodes2, true⟩ :: ⟨some bn_1, 1, 1, fun _ => .int .i64 nMost3, true⟩ :: ⟨some bn_1, 2, 1, fun _ => .slice aqnRow4 nqnRow4 cqnRow4, true⟩ :: ⟨pqnRow4, 0, cqnRow4 * 4, FqnRow4, true⟩ :: ⟨some bn_1, 3, 1, fun _ => .int .i64 r.2.2.2, true⟩ :: (C ++ L)) w' ∧ LO (D60.at (C ++ LP)) [] aqnRow4 pqnRow4 nqnRow4 cqnRow4 FqnRow4 r.2.2.1 := by
  refine W.enter 31 Try.func75 rfl rfl rfl ?_
  unfold letheref23_Net_Copy at hR
  have hFr : Fr2 L LP L LP := Fr2.refl _ _
  have enRow4 := hnRow4.hl; subst enRow4
  refine W.seq_k fun K7 hK7 => ?_
  refine W.regionT [(0, true), (1, true)] (by kernel_rfl) ?_
  refine Plan.assign_int rfl rfl ?_
  refine Plan.assign_int rfl rfl ?_
  refine Plan.nil ?_
  refine hK7 _ _ ?_; clear hK7
  refine W.seq_k fun K8 hK8 => ?_
  refine W.regionT [(0, true), (1, true), (2, false), (3, true)] (by kernel_rfl) ?_
  refine Plan.move_ptr rfl rfl ?_
  refine Plan.move_int rfl rfl ?_
  have h9 := St.pickT (C := [_, _, _, _, _]) HST [0, 1, 2, 4, 3] (by decide)
  simp only [pick, List.filterMap_cons, List.filterMap_nil, List.getElem?_cons_zero, List.getElem?_cons_succ, List.cons_append, List.nil_append] at h9
  obtain ⟨x_11, hr10, hR⟩ := hR
  refine Plan.call (vs := [.pointer (some ⟨bn_1, 0, none⟩), .int .i64 k6]) rfl FRef23.call95 rfl (letheref23_Net_find_ok (by exact (LV.grow D60_lifts (fun r hr => List.mem_append_right [_] (hLP r hr)) (LO.lvf EL.at_flat hnRow4 0 rfl))) hr10 h9) ?_
  rintro _ w12 ⟨rfl, h12⟩
  refine ⟨_, rfl, .inl ⟨PIn.keep PIn.nil h12, ?_⟩⟩
  refine Plan.assign_int rfl rfl ?_
  refine Plan.nil ?_
  refine hK8 _ _ ?_; clear hK8
  refine W.seq_k fun K13 hK13 => ?_
  refine W.seq_k fun K14 hK14 => ?_
  refine W.regionT [(0, true), (1, true)] (by kernel_rfl) ?_
  refine Plan.move_int rfl rfl ?_
  refine Plan.cmpP (a := (x_11 : Int)) (b := (0 : Int)) (p := x_11 < 0) rfl rfl rfl rfl icmp_lt ?_
  refine Plan.nil ?_
  refine hK14 _ _ ?_; clear hK14
  by_cases hc15 : x_11 < 0
  ·
    replace hR := ifT hR hc15
    refine W.condT (congrArg Value.bool (decide_eq_true hc15)) ?_
    refine W.seq_k fun K16 hK16 => ?_
    refine W.regionT [(0, true), (1, true)] (by kernel_rfl) ?_
    refine Plan.assign_int rfl rfl ?_
    refine Plan.assign_int rfl rfl ?_
    refine Plan.nil ?_
    refine hK16 _ _ ?_; clear hK16
    refine W.ret (thenR_ret (finR_ret ?_))
    have h17 := St.pickT (C := [_, _, _, _, _]) h12 [0, 1, 2, 4, 3] (by decide)
    simp only [pick, List.filterMap_cons, List.filterMap_nil, List.getElem?_cons_zero, List.getElem?_cons_succ, List.cons_append, List.nil_append] at h17
    subst r
    refine RetOk.mk (.tmp_int rfl (.tmp_int rfl .nil)) ?_
    exact ⟨[], anRow4, pnRow4, nRow4.length, cnRow4, FnRow4, rfl, h17, hnRow4⟩
  ·
    replace hR := ifF hR hc15
    refine W.condF (congrArg Value.bool (decide_eq_false hc15)) ?_
    refine W.skip ?_
    refine hK13 _ _ ?_; clear hK13
    refine W.seq_k fun K18 hK18 => ?_
    refine W.seq_k fun K19 hK19 => ?_
    refine W.regionD FRef23.mixed [(0, true), (1, true), (2, true), (3, true), (4, true), (5, true), (6, true), (7, true), (8, true), (9, true)] (by kernel_rfl) ?_
    have h20 := h12.drew
    refine Plan.move_ptr rfl rfl ?_
    refine Plan.nilCheck rfl rfl ?_
    refine Plan.fieldAddr 2 FRef23.fld142_2 rfl rfl ?_
    refine Plan.load0 h20 2 rfl rfl rfl (by omega) FRef23.sc57 ?_
    refine Plan.len FRef23.isl57 rfl rfl ?_
    refine Plan.move_ptr rfl rfl ?_
    refine Plan.nilCheck rfl rfl ?_
    refine Plan.fieldAddr 1 FRef23.fld142_1 rfl rfl ?_
    refine Plan.load0 h20 1 rfl rfl rfl (by omega) FRef23.sc3 ?_
    refine Plan.cmpP (a := (((nRow4.length : Nat) : Int) : Int)) (b := (nMost3 : Int)) (p := nMost3 ≤ ((nRow4.length : Nat) : Int)) rfl rfl rfl rfl icmp_ge ?_
    refine Plan.nil ?_
    refine hK19 _ _ ?_; clear hK19
    by_cases hc21 : nMost3 ≤ ((nRow4.length : Nat) : Int)
    ·
      replace hR := ifT hR hc21
      refine W.condT (congrArg Value.bool (decide_eq_true hc21)) ?_
      refine W.seq_k fun K22 hK22 => ?_
      refine W.regionT [(0, true), (1, true)] (by kernel_rfl) ?_
      refine Plan.assign_int rfl rfl ?_
      refine Plan.assign_int rfl rfl ?_
      refine Plan.nil ?_
      refine hK22 _ _ ?_; clear hK22
      refine W.ret (thenR_ret (finR_ret ?_))
      have h23 := St.pickT (C := [_, _, _, _, _]) h20 [0, 1, 2, 4, 3] (by decide)
      simp only [pick, List.filterMap_cons, List.filterMap_nil, List.getElem?_cons_zero, List.getElem?_cons_succ, List.cons_append, List.nil_append] at h23
      subst r
      refine RetOk.mk (.tmp_int rfl (.tmp_int rfl .nil)) ?_
      exact ⟨[], anRow4, pnRow4, nRow4.length, cnRow4, FnRow4, rfl, h23, hnRow4⟩
    ·
      replace hR := ifF hR hc21
      refine W.condF (congrArg Value.bool (decide_eq_false hc21)) ?_
      refine W.skip ?_
      refine hK18 _ _ ?_; clear hK18
      refine W.seq_k fun K24 hK24 => ?_
      refine W.regionT [(0, true), (1, true), (2, true), (3, true), (4, false), (5, true), (6, true), (7, true), (8, false), (9, true), (10, true)] (by kernel_rfl) ?_
      refine Plan.move_ptr rfl rfl ?_
      refine Plan.move_ptr rfl rfl ?_
      refine Plan.nilCheck rfl rfl ?_
      refine Plan.fieldAddr 2 FRef23.fld142_2 rfl rfl ?_
      refine Plan.sync ?_
      refine Plan.load0 h20 2 rfl rfl rfl (by omega) FRef23.sc57 ?_
      refine Plan.nil ?_
      refine Plan.move_int rfl rfl ?_
      obtain ⟨hc25, hR⟩ := hR
      refine Plan.idxLVS (D := (D60.at LP)) (j := x_11.toNat) h20 (LO.lvf EL.at_flat hnRow4 4 rfl) FRef23.sl57 rfl rfl (congrArg (Value.int .i64) (Int.toNat_of_nonneg hc25.1).symm) (toNat_lt hc25.1 hc25.2) ?_
      refine Plan.loadLV (D := (D60.at LP)) (X := nRow4) (j := x_11.toNat) (sz := 4) h20 ((0 : Int), (0 : Int), (0 : Int), ([] : List Byte)) (LO.lvf EL.at_flat hnRow4 4 rfl) rfl rfl (toNat_lt hc25.1 hc25.2) rfl FRef23.agg60 fun b26 r26 hs26 hr26 => ?_
      obtain ⟨i26_3, hv26_3⟩ := hs26
      have hp26_3 : ∃ i, Bx LP i _ _ _ _ := ⟨_, hv26_3⟩
      obtain ⟨i26_3, hv26_3⟩ := Bx.lift hv26_3 hLP
      have h27 := St.pickT (C := [_, _, _, _, _]) h20 [0, 1, 2, 4, 3] (by decide)
      simp only [pick, List.filterMap_cons, List.filterMap_nil, List.getElem?_cons_zero, List.getElem?_cons_succ, List.cons_append, List.nil_append] at h27
      obtain ⟨x_29, x_30, x_31, hr28, hR⟩ := hR
      refine Plan.call (vs := [.pointer (some ⟨bn_1, 0, none⟩), AG [(1, fun _ => .int .i64 ((nRow4.getD x_11.toNat ((0 : Int), (0 : Int), (0 : Int), ([] : List Byte))).1)), (1, fun _ => .int .i64 ((nRow4.getD x_11.toNat ((0 : Int), (0 : Int), (0 : Int), ([] : List Byte))).2.1)), (1, fun _ => .int .i64 ((nRow4.getD x_11.toNat ((0 : Int), (0 : Int), (0 : Int), ([] : List Byte))).2.2.1)), (1, fun _ => .slice ((b26).1) (((nRow4.getD x_11.toNat ((0 : Int), (0 : Int), (0 : Int), ([] : List Byte))).2.2.2).length) ((b26).2))]]) rfl FRef23.call94 rfl (letheref23_Net_add_ok (LP := LP) (by exact fun r hr => List.mem_append_right [] (hLP r hr)) (by exact LO.grow D60_lifts (fun r hr => hr) hnRow4) (by exact hp26_3) hr28 h27) ?_
      rintro _ w37 ⟨C37, aqnRow4_32, pqnRow4_33, nqnRow4_34, cqnRow4_35, FqnRow4_36, rfl, h37, hf37_0⟩
      try dsimp only at hf37_0
      obtain rfl := hf37_0.hl
      replace h37 := St.pool (N := [_, _, _, _, _]) (R := []) h37
      obtain ⟨L, hL38⟩ : ∃ X, X = C37 ++ L := ⟨_, rfl⟩
      obtain ⟨LP, hQ38⟩ : ∃ X, X = C37 ++ LP := ⟨_, rfl⟩
      replace hLP : ∀ r ∈ LP, r ∈ L := by rw [hQ38, hL38]; exact frMemGrow hLP
      have h38 := St.re (N := [_, _, _, _, _]) hL38 h37
      simp only [List.cons_append, List.nil_append] at h38
      replace hFr : Fr2 _ _ L LP := hFr.step hL38 hQ38
      obtain ⟨ix39, hv39⟩ : ∃ i, Bx L i ((b26).1) (((nRow4.getD x_11.toNat ((0 : Int), (0 : Int), (0 : Int), ([] : List Byte))).2.2.2).length) ((b26).2) ((nRow4.getD x_11.toNat ((0 : Int), (0 : Int), (0 : Int), ([] : List Byte))).2.2.2) := ⟨_, by rw [hL38]; exact hv26_3.app _⟩
      have hp39 : ∃ i, Bx LP i ((b26).1) (((nRow4.getD x_11.toNat ((0 : Int), (0 : Int), (0 : Int), ([] : List Byte))).2.2.2).length) ((b26).2) ((nRow4.getD x_11.toNat ((0 : Int), (0 : Int), (0 : Int), ([] : List Byte))).2.2.2) := by rw [hQ38]; exact ⟨_, hp26_3.choose_spec.app _⟩
      have ho40 : LO (D60.at LP) [] aqnRow4_32 pqnRow4_33 ((x_30).length) cqnRow4_35 FqnRow4_36 x_30 := LO.grow D60_lifts (fun r hr => (by rw [hQ38]; exact hr)) hf37_0
      refine ⟨_, rfl, .inr ⟨rfl, ?_⟩⟩
      refine Plan.assign_int rfl rfl ?_
      refine Plan.assign_int rfl rfl ?_
      refine Plan.nil ?_
      refine hK24 _ _ ?_; clear hK24
      refine W.ret (finR_ret ?_)
      subst r
      refine RetOk.mk (.tmp_int rfl (.tmp_int rfl .nil)) ?_
      obtain ⟨CF, hx1, hx2⟩ := hFr
      subst hx1
      subst hx2
      exact ⟨_, aqnRow4_32, pqnRow4_33, x_30.length, cqnRow4_35, FqnRow4_36, rfl, h38, ho40⟩


set_option maxRecDepth 8000 in
set_option maxHeartbeats 1000000 in
theorem letheref23_Net_Flights_ok {B : Nat} {w0 : Base} {w : World} {L : List Rg} {LP : List Rg} (hLP : ∀ r ∈ LP, r ∈ L) {bn_1 : Nat} {nNodes2 : Int} {nMost3 : Int} {nRow4 : List (Int × Int × Int × (List Byte))} {anRow4 : Option Addr} {pnRow4 : Option Nat} {nnRow4 cnRow4 : Nat} {FnRow4 : Nat → Value} (hnRow4 : LO (D60.at LP) [] anRow4 pnRow4 nnRow4 cnRow4 FnRow4 nRow4) {nNumber5 : Int} {r : ((List (Int × Int × Int × (List Byte))) × (List (Int × Int × Int × (List Byte))))} (hR : letheref23_Net_Flights nNodes2 nMost3 nRow4 nNumber5 r) (HST : St B w0 (⟨some bn_1, 0, 1, fun _ => .int .i64 nNodes2, true⟩ :: ⟨some bn_1, 1, 1, fun _ => .int .i64 nMost3, true⟩ :: ⟨some bn_1, 2, 1, fun _ => .slice anRow4 nnRow4 cnRow4, true⟩ :: ⟨pnRow4, 0, cnRow4 * 4, FnRow4, true⟩ :: ⟨some bn_1, 3, 1, fun _ => .int .i64 nNumber5, true⟩ :: L) w) :
    Calls Try.prog 44 #[.pointer (some ⟨bn_1, 0, none⟩)] w fun e w' => ∃ C : List Rg, ∃ ay0 : Option Addr, ∃ py0 : Option Nat, ∃ ny0 : Nat, ∃ cy0 : Nat, ∃ Fy0 : Nat → Value, ∃ aqnRow4 : Option Addr, ∃ pqnRow4 : Option Nat, ∃ nqnRow4 : Nat, ∃ cqnRow4 : Nat, ∃ FqnRow4 : Nat → Value, e = .returned (.slice ay0 ny0 cy0) ∧ St B w0 (⟨py0, 0, cy0 * 4, Fy0, true⟩ :: ⟨some bn_1, 0, 1, fun _ => .int .i64 nNodes2, true⟩ :: ⟨some bn_1, 1, 1, fun _ => .int .i64 nMost3, true⟩ :: ⟨some bn_1, 2, 1, fun _ => .slice aqnRow4 nqnRow4 cqnRow4, true⟩ :: ⟨pqnRow4, 0, cqnRow4 * 4, FqnRow4, true⟩ :: ⟨some bn_1, 3, 1, fun _ => .int .i64 nNumber5, true⟩ :: (C ++ L)) w' ∧ LO (D60.at (C ++ LP)) [] ay0 py0 ny0 cy0 Fy0 r.1 ∧ LO (D60.at (C ++ LP)) [] aqnRow4 pqnRow4 nqnRow4 cqnRow4 FqnRow4 r.2 := by
  refine W.enter 26 Try.func44 rfl rfl rfl ?_
  unfold letheref23_Net_Flights at hR
  have hFr : Fr2 L LP L LP := Fr2.refl _ _
  have enRow4 := hnRow4.hl; subst enRow4
  refine W.seq_k fun K6 hK6 => ?_
  refine W.regionT [(0, true)] (by kernel_rfl) ?_
  refine Plan.assign_slice rfl rfl ?_
  refine Plan.nil ?_
  refine hK6 _ _ ?_; clear hK6
  refine W.seq_k fun K7 hK7 => ?_
  refine W.regionT [(0, true)] (by kernel_rfl) ?_
  refine Plan.assign_slice rfl rfl ?_
  refine Plan.nil ?_
  refine hK7 _ _ ?_; clear hK7
  refine W.seq_k fun K8 hK8 => ?_
  refine W.seq_k fun K9 hK9 => ?_
  refine W.regionT [(0, true)] (by kernel_rfl) ?_
  refine Plan.assign_int rfl rfl ?_
  refine Plan.nil ?_
  refine hK9 _ _ ?_; clear hK9
  have hFj71 : Fr2 L LP L LP := Fr2.refl _ _
  have h72 : St B w0 (⟨none, 0, 0 * 4, fun _ => undef, true⟩ :: _) _ := HST.nilE (fun _ => undef)
  obtain ⟨out69, m70, hI71, hR071⟩ := hR
  refine W.cutN (fun e w => ∃ y_out69 : List (Int × Int × Int × (List Byte)), ∃ y_m70 : List (Int × Int × Int × (List Byte)), (out69, m70) = (y_out69, y_m70) ∧ ∃ CG LG : List Rg, LG = CG ++ L ∧ ∃ QG : List Rg, QG = CG ++ LP ∧ ∃ L : List Rg, L = LG ∧ ∃ LP : List Rg, LP = QG ∧ (∀ r ∈ LP, r ∈ L) ∧ ∃ n_out69 : Nat, ∃ aout69 : Option Addr, ∃ pout69 : Option Nat, ∃ cout69 : Nat, ∃ Fout69 : Nat → Value, ∃ n_m70 : Nat, ∃ am70 : Option Addr, ∃ pm70 : Option Nat, ∃ cm70 : Nat, ∃ Fm70 : Nat → Value, EnvHas e [(3, .slice aout69 n_out69 cout69)] ∧ St B w0 (⟨pout69, 0, cout69 * 4, Fout69, true⟩ :: ⟨pm70, 0, cm70 * 4, Fm70, true⟩ :: ⟨some bn_1, 0, 1, fun _ => .int .i64 nNodes2, true⟩ :: ⟨some bn_1, 1, 1, fun _ => .int .i64 nMost3, true⟩ :: ⟨some bn_1, 2, 1, fun _ => .slice am70 n_m70 cm70, true⟩ :: ⟨some bn_1, 3, 1, fun _ => .int .i64 nNumber5, true⟩ :: L) w ∧ LO (D60.at LP) [] aout69 pout69 n_out69 cout69 Fout69 y_out69 ∧ LO (D60.at LP) [] am70 pm70 n_m70 cm70 Fm70 y_m70) ?_ ?_
  ·
    refine W.block ?_
    have h73 := St.pickT (C := [_, _, _, _, _, _]) h72 [0, 4, 1, 2, 3, 5] (by decide)
    simp only [pick, List.filterMap_cons, List.filterMap_nil, List.getElem?_cons_zero, List.getElem?_cons_succ, List.cons_append, List.nil_append] at h73
    refine W.iter hI71 (fun (s71 : ((List (Int × Int × Int × (List Byte))) × Nat × (List (Int × Int × Int × (List Byte))))) e w => ∃ CG LG : List Rg, LG = CG ++ L ∧ ∃ QG : List Rg, QG = CG ++ LP ∧ ∃ L : List Rg, L = LG ∧ ∃ LP : List Rg, LP = QG ∧ (∀ r ∈ LP, r ∈ L) ∧ ∃ n_out65 : Nat, ∃ aout65 : Option Addr, ∃ pout65 : Option Nat, ∃ cout65 : Nat, ∃ Fout65 : Nat → Value, ∃ n_m68 : Nat, ∃ am68 : Option Addr, ∃ pm68 : Option Nat, ∃ cm68 : Nat, ∃ Fm68 : Nat → Value, EnvHas e [(0, .pointer (some ⟨bn_1, 0, none⟩)), (3, .slice aout65 n_out65 cout65), (4, VN s71.2.1)] ∧ St B w0 (⟨pout65, 0, cout65 * 4, Fout65, true⟩ :: ⟨pm68, 0, cm68 * 4, Fm68, true⟩ :: ⟨some bn_1, 0, 1, fun _ => .int .i64 nNodes2, true⟩ :: ⟨some bn_1, 1, 1, fun _ => .int .i64 nMost3, true⟩ :: ⟨some bn_1, 2, 1, fun _ => .slice am68 n_m68 cm68, true⟩ :: ⟨some bn_1, 3, 1, fun _ => .int .i64 nNumber5, true⟩ :: L) w ∧ LO (D60.at LP) [] aout65 pout65 n_out65 cout65 Fout65 s71.1 ∧ LO (D60.at LP) [] am68 pm68 n_m68 cm68 Fm68 s71.2.2) ⟨[], L, rfl, LP, rfl, L, rfl, LP, rfl, hLP, 0, none, none, 0, (fun _ => undef), nRow4.length, anRow4, pnRow4, cnRow4, FnRow4, (EnvHas.cons rfl (EnvHas.cons rfl (EnvHas.cons rfl EnvHas.nil))), h73, LO.nil, hnRow4⟩ ?_
    rintro ⟨out65, i_67, m68⟩ o71 hR hx71 ev74 wl74 ⟨CG74, LG74, hlg74, QG74, hqg74, L, hLe74, LP, hQe74, hLPn74, n_out65, aout65, pout65, cout65, Fout65, n_m68, am68, pm68, cm68, Fm68, he74, h74, hout65, hm68⟩
    try dsimp only at he74 h74 hout65 hm68
    obtain rfl : List.length (α := (Int × Int × Int × (List Byte))) out65 = n_out65 := hout65.hl
    obtain rfl : List.length (α := (Int × Int × Int × (List Byte))) m68 = n_m68 := hm68.hl
    obtain ⟨ev74, rfl⟩ := he74.open
    unfold letheref23_Net_Flights_l0 at hR
    have hL74 := hLe74.trans hlg74
    have hQ74 := hQe74.trans hqg74
    replace hLP : ∀ r ∈ LP, r ∈ L := by rw [hQ74, hL74]; exact frMemGrow hLP
    replace hFr : Fr2 _ _ L LP := hFr.step hL74 hQ74
    replace hFj71 : Fr2 _ _ L LP := hFj71.step hL74 hQ74
    refine W.seq_k fun K76 hK76 => ?_
    refine W.seq_k fun K77 hK77 => ?_
    refine W.regionT [(0, true), (1, true), (2, true), (3, true), (4, true), (5, true), (6, true)] (by kernel_rfl) ?_
    refine Plan.move_int rfl rfl ?_
    refine Plan.move_ptr rfl rfl ?_
    refine Plan.nilCheck rfl rfl ?_
    refine Plan.fieldAddr 2 FRef23.fld142_2 rfl rfl ?_
    refine Plan.load0 h74 4 rfl rfl rfl (by omega) FRef23.sc57 ?_
    refine Plan.len FRef23.isl57 rfl rfl ?_
    refine Plan.cmpP (a := (((i_67 : Nat) : Int) : Int)) (b := (((m68.length : Nat) : Int) : Int)) (p := i_67 < m68.length) rfl rfl rfl rfl icmp_ltN ?_
    refine Plan.nil ?_
    refine hK77 _ _ ?_; clear hK77
    by_cases hc78 : i_67 < m68.length
    ·
      replace hR := ifT hR hc78
      refine W.condT (congrArg Value.bool (decide_eq_true hc78)) ?_
      refine W.skip ?_
      refine hK76 _ _ ?_; clear hK76
      refine W.seq_k fun K79 hK79 => ?_
      refine W.block ?_
      refine W.regionT [(0, true), (1, true), (2, true), (3, true), (4, false), (5, true), (6, true), (7, true), (8, false), (9, false), (10, false), (11, true)] (by kernel_rfl) ?_
      refine Plan.move_slice rfl rfl ?_
      refine Plan.move_ptr rfl rfl ?_
      refine Plan.nilCheck rfl rfl ?_
      refine Plan.fieldAddr 2 FRef23.fld142_2 rfl rfl ?_
      refine Plan.sync ?_
      refine Plan.load0 h74 4 rfl rfl rfl (by omega) FRef23.sc57 ?_
      refine Plan.nil ?_
      refine Plan.move_int rfl rfl ?_
      obtain ⟨hc80, hR⟩ := hR
      refine Plan.idxLVS (D := (D60.at LP)) (j := i_67) h74 (LO.lvf EL.at_flat hm68 1 rfl) FRef23.sl57 rfl rfl rfl hc80 ?_
      refine Plan.loadLV (D := (D60.at LP)) (X := m68) (j := i_67) (sz := 4) h74 ((0 : Int), (0 : Int), (0 : Int), ([] : List Byte)) (LO.lvf EL.at_flat hm68 1 rfl) rfl rfl hc80 rfl FRef23.agg60 fun b81 r81 hs81 hr81 => ?_
      obtain ⟨i81_3, hv81_3⟩ := hs81
      have hp81_3 : ∃ i, Bx LP i _ _ _ _ := ⟨_, hv81_3⟩
      obtain ⟨i81_3, hv81_3⟩ := Bx.lift hv81_3 hLP
      obtain ⟨x_83, x_84, x_85, x_86, hr82, hR⟩ := hR
      refine Plan.call (vs := [AG [(1, fun _ => .int .i64 ((m68.getD i_67 ((0 : Int), (0 : Int), (0 : Int), ([] : List Byte))).1)), (1, fun _ => .int .i64 ((m68.getD i_67 ((0 : Int), (0 : Int), (0 : Int), ([] : List Byte))).2.1)), (1, fun _ => .int .i64 ((m68.getD i_67 ((0 : Int), (0 : Int), (0 : Int), ([] : List Byte))).2.2.1)), (1, fun _ => .slice ((b81).1) (((m68.getD i_67 ((0 : Int), (0 : Int), (0 : Int), ([] : List Byte))).2.2.2).length) ((b81).2))]]) rfl FRef23.call76 rfl (letheref23_Twin_ok (hv81_3.app [_, _, _, _, _, _]) hr82 h74) ?_
      rintro _ w90 ⟨C90, iy0_3_87, ay0_3_88, cy0_3_89, rfl, h90, hf90_0⟩
      try dsimp only at hf90_0
      replace h90 := St.pool (N := []) (R := [_, _, _, _, _, _]) h90
      obtain ⟨L, hL91⟩ : ∃ X, X = C90 ++ L := ⟨_, rfl⟩
      obtain ⟨LP, hQ91⟩ : ∃ X, X = C90 ++ LP := ⟨_, rfl⟩
      replace hLP : ∀ r ∈ LP, r ∈ L := by rw [hQ91, hL91]; exact frMemGrow hLP
      have h91 := St.re (N := [_, _, _, _, _, _]) hL91 h90
      simp only [List.cons_append, List.nil_append] at h91
      replace hFr : Fr2 _ _ L LP := hFr.step hL91 hQ91
      replace hFj71 : Fr2 _ _ L LP := hFj71.step hL91 hQ91
      obtain ⟨ix92, hv92⟩ : ∃ i, Bx L i ((b81).1) (((m68.getD i_67 ((0 : Int), (0 : Int), (0 : Int), ([] : List Byte))).2.2.2).length) ((b81).2) ((m68.getD i_67 ((0 : Int), (0 : Int), (0 : Int), ([] : List Byte))).2.2.2) := ⟨_, by rw [hL91]; exact hv81_3.app _⟩
      have hp92 : ∃ i, Bx LP i ((b81).1) (((m68.getD i_67 ((0 : Int), (0 : Int), (0 : Int), ([] : List Byte))).2.2.2).length) ((b81).2) ((m68.getD i_67 ((0 : Int), (0 : Int), (0 : Int), ([] : List Byte))).2.2.2) := by rw [hQ91]; exact ⟨_, hp81_3.choose_spec.app _⟩
      have ho93 : LO (D60.at LP) [] aout65 pout65 ((out65).length) cout65 Fout65 out65 := by rw [hQ91]; exact LO.grow D60_lifts (fun r hr => List.mem_append_right _ hr) hout65
      have ho94 : LO (D60.at LP) [] am68 pm68 ((m68).length) cm68 Fm68 m68 := by rw [hQ91]; exact LO.grow D60_lifts (fun r hr => List.mem_append_right _ hr) hm68
      have hp95 : ∃ i, Bx LP i ay0_3_88 x_86.length cy0_3_89 x_86 := by rw [hQ91]; exact Bx.lift hf90_0 (fun r hr => List.mem_append_left _ hr)
      obtain ⟨ix95, hv95⟩ := Bx.lift hp95.choose_spec hLP
      refine ⟨_, rfl, .inr ⟨rfl, ?_⟩⟩
      refine Plan.buildLO (D := (D60.at LP)) (sz := 4) h91 [((ay0_3_88, cy0_3_89), ((x_83, x_84, x_85, x_86) : (Int × Int × Int × (List Byte))))] FRef23.slu57 FRef23.sz60 FRef23.zv60 (by decide) (by decide) rfl rfl rfl rfl (by exact (List.forall_mem_cons.2 ⟨hp95, (fun _ h => nomatch h)⟩)) (EffO.keep PIn.nil) fun b97 w97 F97 hb97 ho97 h97 => ?_
      replace ho97 : LO (D60.at LP) [] (some ⟨b97, 0, none⟩) (some b97) ([(x_83, x_84, x_85, x_86)] : List (Int × Int × Int × (List Byte))).length 1 F97 ([(x_83, x_84, x_85, x_86)] : List (Int × Int × Int × (List Byte))) := ho97.re (fun _ _ h => h)
      obtain ⟨hc99, hR⟩ := hR
      refine Plan.appendLO (D := (D60.at LP)) (X := out65) (Y := ([(x_83, x_84, x_85, x_86)] : List (Int × Int × Int × (List Byte)))) (sz := 4) h97 (none, 0) ((0 : Int), (0 : Int), (0 : Int), ([] : List Byte)) 1 ho93 rfl FRef23.el57 rfl FRef23.slu57 rfl rfl rfl rfl (LO.lvf EL.at_flat ho97 0 rfl) (fun _ _ h => h) hc99.1 hc99.2 (fun _ => EffO.keep PIn.nil) fun a98 pb98 cap98 F98 w98 ho98 h98 => ?_
      simp only [List.cons_append, List.nil_append, List.set_cons_zero, List.set_cons_succ] at h98
      replace ho98 : LO (D60.at LP) [] a98 pb98 (out65 ++ ([(x_83, x_84, x_85, x_86)] : List (Int × Int × Int × (List Byte)))).length cap98 F98 (out65 ++ ([(x_83, x_84, x_85, x_86)] : List (Int × Int × Int × (List Byte)))) := ho98.re (fun _ _ h => h)
      refine Plan.assign_slice rfl rfl ?_
      refine Plan.nil ?_
      refine blockR_norm ?_
      refine hK79 _ _ ?_; clear hK79
      refine W.regionT [(0, true), (1, true), (2, true)] (by kernel_rfl) ?_
      refine Plan.move_int rfl rfl ?_
      obtain ⟨hc100, hR⟩ := hR
      refine Plan.addN (a := i_67) (b := 1) rfl rfl rfl (by omega) ?_
      refine Plan.assign_int rfl rfl ?_
      refine Plan.nil ?_
      have h101 := St.pickT (C := [_, _, _, _, _, _, _]) h98 [1, 2, 3, 4, 5, 6] (by decide)
      simp only [pick, List.filterMap_cons, List.filterMap_nil, List.getElem?_cons_zero, List.getElem?_cons_succ, List.cons_append, List.nil_append] at h101
      obtain ⟨CF102, hx102, hy102⟩ := hFj71
      exact iterR_norm ⟨_, hR, CF102, L, hx102, LP, hy102, L, rfl, LP, rfl, hLP, (out65 ++ ([(x_83, x_84, x_85, x_86)] : List (Int × Int × Int × (List Byte)))).length, a98, pb98, cap98, F98, m68.length, am68, pm68, cm68, Fm68, (EnvHas.cons rfl (EnvHas.cons rfl (EnvHas.cons rfl EnvHas.nil))), h101, ho98, ho94⟩
    ·
      replace hR := ifF hR hc78
      refine W.condF (congrArg Value.bool (decide_eq_false hc78)) ?_
      refine W.exit (thenR_exit (iterR_exit (blockR_here ?_)))
      obtain ⟨CF103, hx103, hy103⟩ := hFj71
      exact ⟨out65, m68, (hx71 _ hR).symm, CF103, L, hx103, LP, hy103, L, rfl, LP, rfl, hLP, out65.length, aout65, pout65, cout65, Fout65, m68.length, am68, pm68, cm68, Fm68, (EnvHas.cons rfl EnvHas.nil), h74, hout65, hm68⟩
  ·
    rintro ev104 wl104 ⟨y_out69, y_m70, hy104, CG104, LG104, hlg104, QG104, hqg104, L, hLe104, LP, hQe104, hLPn104, n_out69, aout69, pout69, cout69, Fout69, n_m70, am70, pm70, cm70, Fm70, he104, h104, hout69, hm70⟩
    obtain ⟨ev104, rfl⟩ := he104.open
    cases hy104
    replace hR := hR071
    obtain rfl : List.length (α := (Int × Int × Int × (List Byte))) out69 = n_out69 := hout69.hl
    obtain rfl : List.length (α := (Int × Int × Int × (List Byte))) m70 = n_m70 := hm70.hl
    have hL104 := hLe104.trans hlg104
    have hQ104 := hQe104.trans hqg104
    replace hLP : ∀ r ∈ LP, r ∈ L := by rw [hQ104, hL104]; exact frMemGrow hLP
    replace hFr : Fr2 _ _ L LP := hFr.step hL104 hQ104
    replace hFj71 : Fr2 _ _ L LP := hFj71.step hL104 hQ104
    refine hK8 _ _ ?_; clear hK8
    refine W.seq_k fun K106 hK106 => ?_
    refine W.regionT [(0, true), (1, true)] (by kernel_rfl) ?_
    refine Plan.move_slice rfl rfl ?_
    refine Plan.assign_slice rfl rfl ?_
    refine Plan.nil ?_
    refine hK106 _ _ ?_; clear hK106
    refine W.ret (finR_ret ?_)
    have h107 := St.pickT (C := [_, _, _, _, _, _]) h104 [0, 2, 3, 4, 1, 5] (by decide)
    simp only [pick, List.filterMap_cons, List.filterMap_nil, List.getElem?_cons_zero, List.getElem?_cons_succ, List.cons_append, List.nil_append] at h107
    subst r
    refine RetOk.mk (.tmp_slice rfl .nil) ?_
    obtain ⟨CF, hx1, hx2⟩ := hFr
    subst hx1
    subst hx2
    exact ⟨_, aout69, pout69, out69.length, cout69, Fout69, am70, pm70, m70.length, cm70, Fm70, rfl, h107, hout69, hm70⟩


set_option maxRecDepth 8000 in
set_option maxHeartbeats 1000000 in
theorem letheref23_Net_Next_ok {B : Nat} {w0 : Base} {w : World} {L : List Rg} {bn_1 : Nat} {nNodes2 : Int} {nMost3 : Int} {nRow4 : List (Int × Int × Int × (List Byte))} {anRow4 : Option Addr} {nnRow4 cnRow4 inRow4 : Nat} (hnRow4 : LV (D60.at L) L inRow4 anRow4 nnRow4 cnRow4 nRow4) {nNumber5 : Int} {r : Int} (hR : letheref23_Net_Next nNodes2 nMost3 nRow4 nNumber5 r) (HST : St B w0 (⟨some bn_1, 0, 1, fun _ => .int .i64 nNodes2, true⟩ :: ⟨some bn_1, 1, 1, fun _ => .int .i64 nMost3, true⟩ :: ⟨some bn_1, 2, 1, fun _ => .slice anRow4 nnRow4 cnRow4, true⟩ :: ⟨some bn_1, 3, 1, fun _ => .int .i64 nNumber5, true⟩ :: L) w) :
    Calls Try.prog 46 #[.pointer (some ⟨bn_1, 0, none⟩)] w fun e w' => e = .returned (.int .i64 r) ∧ St B w0 (⟨some bn_1, 0, 1, fun _ => .int .i64 nNodes2, true⟩ :: ⟨some bn_1, 1, 1, fun _ => .int .i64 nMost3, true⟩ :: ⟨some bn_1, 2, 1, fun _ => .slice anRow4 nnRow4 cnRow4, true⟩ :: ⟨some bn_1, 3, 1, fun _ => .int .i64 nNumber5, true⟩ :: L) w' := by
  refine W.enter 7 Try.func46 rfl rfl rfl ?_
  unfold letheref23_Net_Next at hR
  have enRow4 := hnRow4.hl; subst enRow4
  refine W.seq_k fun K6 hK6 => ?_
  refine W.regionT [(0, true)] (by kernel_rfl) ?_
  refine Plan.assign_int rfl rfl ?_
  refine Plan.nil ?_
  refine hK6 _ _ ?_; clear hK6
  refine W.seq_k fun K7 hK7 => ?_
  refine W.regionT [(0, true), (1, true), (2, true), (3, true), (4, true)] (by kernel_rfl) ?_
  refine Plan.move_ptr rfl rfl ?_
  refine Plan.nilCheck rfl rfl ?_
  refine Plan.fieldAddr 3 FRef23.fld142_3 rfl rfl ?_
  refine Plan.load0 HST 3 rfl rfl rfl (by omega) FRef23.sc3 ?_
  refine Plan.assign_int rfl rfl ?_
  refine Plan.nil ?_
  refine hK7 _ _ ?_; clear hK7
  refine W.ret (finR_ret ?_)
  subst r
  refine RetOk.mk (.tmp_int rfl .nil) ?_
  exact ⟨rfl, HST⟩

end Go.Proofs.Ytbkgblhmlenocaa
