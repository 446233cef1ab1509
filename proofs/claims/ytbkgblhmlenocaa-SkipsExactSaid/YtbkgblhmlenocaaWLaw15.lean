/-
  WALKS of the package's functions, printed by this session's own program (auto.py).
-/
import Derived.Test.YtbkgblhmlenocaaProg
import Derived.Test.YtbkgblhmlenocaaEd
import Derived.Test.YtbkgblhmlenocaaRLaw15
import Derived.Test.YtbkgblhmlenocaaEls
namespace Go.Proofs.Ytbkgblhmlenocaa
set_option linter.unusedSimpArgs false
set_option linter.unusedVariables false
set_option linter.unusedSectionVars false
open Go Go.LW
theorem FLaw15.mixed : Try.prog.follows .mixedOrders = true := by kernel_rfl
theorem FLaw15.agg81 : aggT Try.prog 81 34 = true := by kernel_rfl
theorem FLaw15.isl78 : ∃ el, Try.prog.underlying 78 = some (.slice el) := ⟨81, by kernel_rfl⟩
theorem FLaw15.sl78 : slB Try.prog 78 34 = true := by kernel_rfl
theorem FLaw15.sc73 : scalarT Try.prog 73 = true := by kernel_rfl
theorem FLaw15.agg71 : aggT Try.prog 71 32 = true := by kernel_rfl
theorem FLaw15.int73 : intT Try.prog 73 .u32 = true := by kernel_rfl
theorem FLaw15.arrI71 : arrIB Try.prog 71 32 .u8 = true := by kernel_rfl
theorem FLaw15.flds81 : fieldsB Try.prog 81 [(73, 0), (73, 1), (71, 2)] = true := by kernel_rfl
theorem FLaw15.eqg81 : Try.prog.eqGuardType Try.prog.depth 81 = false := by kernel_rfl
theorem FLaw15.isl66 : ∃ el, Try.prog.underlying 66 = some (.slice el) := ⟨71, by kernel_rfl⟩
theorem FLaw15.sl66 : slB Try.prog 66 32 = true := by kernel_rfl

set_option maxRecDepth 8000 in
set_option maxHeartbeats 1000000 in
theorem lethelaw15_sameList_ok {B : Nat} {w0 : Base} {w : World} {L : List Rg} {a1 : List ((BitVec 32) × (BitVec 32) × (Nat → BitVec 8))} {aa1 : Option Addr} {na1 ca1 ia1 : Nat} (ha1 : LV D81 L ia1 aa1 na1 ca1 a1) {b2 : List ((BitVec 32) × (BitVec 32) × (Nat → BitVec 8))} {ab2 : Option Addr} {nb2 cb2 ib2 : Nat} (hb2 : LV D81 L ib2 ab2 nb2 cb2 b2) {r : Bool} (hR : lethelaw15_sameList a1 b2 r) (HST : St B w0 (L) w) :
    Calls Try.prog 50 #[.slice aa1 na1 ca1, .slice ab2 nb2 cb2] w fun e w' => e = .returned (.bool r) ∧ St B w0 (L) w' := by
  refine W.enter 26 Try.func50 rfl rfl rfl ?_
  unfold lethelaw15_sameList at hR
  have ea1 := ha1.hl; subst ea1
  have eb2 := hb2.hl; subst eb2
  refine W.seq_k fun K3 hK3 => ?_
  refine W.regionT [(0, true)] (by kernel_rfl) ?_
  refine Plan.assign_bool rfl rfl ?_
  refine Plan.nil ?_
  refine hK3 _ _ ?_; clear hK3
  refine W.seq_k fun K4 hK4 => ?_
  refine W.seq_k fun K5 hK5 => ?_
  refine W.regionT [(0, true), (1, true), (2, true), (3, true), (4, true)] (by kernel_rfl) ?_
  refine Plan.move_slice rfl rfl ?_
  refine Plan.len FLaw15.isl78 rfl rfl ?_
  refine Plan.move_slice rfl rfl ?_
  refine Plan.len FLaw15.isl78 rfl rfl ?_
  refine Plan.cmpP (a := (((a1.length : Nat) : Int) : Int)) (b := (((b2.length : Nat) : Int) : Int)) (p := a1.length ≠ b2.length) rfl rfl rfl rfl icmp_neN ?_
  refine Plan.nil ?_
  refine hK5 _ _ ?_; clear hK5
  by_cases hc6 : a1.length ≠ b2.length
  ·
    replace hR := ifT hR hc6
    refine W.condT (congrArg Value.bool (decide_eq_true hc6)) ?_
    refine W.seq_k fun K7 hK7 => ?_
    refine W.regionT [(0, true)] (by kernel_rfl) ?_
    refine Plan.assign_bool rfl rfl ?_
    refine Plan.nil ?_
    refine hK7 _ _ ?_; clear hK7
    refine W.ret (thenR_ret (finR_ret ?_))
    subst r
    refine RetOk.mk (.tmp_bool rfl .nil) ?_
    exact ⟨rfl, HST⟩
  ·
    replace hR := ifF hR hc6
    refine W.condF (congrArg Value.bool (decide_eq_false hc6)) ?_
    refine W.skip ?_
    refine hK4 _ _ ?_; clear hK4
    refine W.seq_k fun K8 hK8 => ?_
    refine W.seq_k fun K9 hK9 => ?_
    refine W.regionT [(0, true)] (by kernel_rfl) ?_
    refine Plan.assign_int rfl rfl ?_
    refine Plan.nil ?_
    refine hK9 _ _ ?_; clear hK9
    obtain ⟨x37, hI37, hR037⟩ := hR
    refine W.cutN (fun e w => x37 = some () ∧ EnvHas e [] ∧ St B w0 (L) w) ?_ ?_
    ·
      refine W.block ?_
      refine W.iter hI37 (fun (s37 : Nat) e w => EnvHas e [(0, .slice aa1 a1.length ca1), (1, .slice ab2 b2.length cb2), (5, VN s37)] ∧ St B w0 (L) w) ⟨(EnvHas.cons rfl (EnvHas.cons rfl (EnvHas.cons rfl EnvHas.nil))), HST⟩ ?_
      rintro i_36 o37 hR hx37 ev38 wl38 ⟨he38, h38⟩
      obtain ⟨ev38, rfl⟩ := he38.open
      unfold lethelaw15_sameList_l0 at hR
      refine W.seq_k fun K39 hK39 => ?_
      refine W.seq_k fun K40 hK40 => ?_
      refine W.regionT [(0, true), (1, true), (2, true), (3, true)] (by kernel_rfl) ?_
      refine Plan.move_int rfl rfl ?_
      refine Plan.move_slice rfl rfl ?_
      refine Plan.len FLaw15.isl78 rfl rfl ?_
      refine Plan.cmpP (a := (((i_36 : Nat) : Int) : Int)) (b := (((a1.length : Nat) : Int) : Int)) (p := i_36 < a1.length) rfl rfl rfl rfl icmp_ltN ?_
      refine Plan.nil ?_
      refine hK40 _ _ ?_; clear hK40
      by_cases hc41 : i_36 < a1.length
      ·
        replace hR := ifT hR hc41
        refine W.condT (congrArg Value.bool (decide_eq_true hc41)) ?_
        refine W.skip ?_
        refine hK39 _ _ ?_; clear hK39
        refine W.seq_k fun K42 hK42 => ?_
        refine W.block ?_
        refine W.seq_k fun K43 hK43 => ?_
        refine W.regionD FLaw15.mixed [(0, true), (1, true), (2, true), (3, true), (4, true), (5, true), (6, true), (7, true), (8, true)] (by kernel_rfl) ?_
        have h44 := h38.drew
        refine Plan.move_slice rfl rfl ?_
        refine Plan.move_int rfl rfl ?_
        obtain ⟨hc45, hR⟩ := hR
        refine Plan.idxLVS (D := D81) (j := i_36) h44 ha1 FLaw15.sl78 rfl rfl rfl hc45 ?_
        refine Plan.loadLV (D := D81) (X := a1) (j := i_36) (sz := 34) h44 (0#32, 0#32, (fun _ => 0#8)) ha1 rfl rfl hc45 rfl FLaw15.agg81 fun b46 r46 hs46 hr46 => ?_
        refine Plan.move_slice rfl rfl ?_
        refine Plan.move_int rfl rfl ?_
        obtain ⟨hc47, hR⟩ := hR
        refine Plan.idxLVS (D := D81) (j := i_36) h44 hb2 FLaw15.sl78 rfl rfl rfl hc47 ?_
        refine Plan.loadLV (D := D81) (X := b2) (j := i_36) (sz := 34) h44 (0#32, 0#32, (fun _ => 0#8)) hb2 rfl rfl hc47 rfl FLaw15.agg81 fun b48 r48 hs48 hr48 => ?_
        refine Plan.neStrV' (c := ((decide ((a1.getD i_36 (0#32, 0#32, (fun _ => 0#8))).1 = (b2.getD i_36 (0#32, 0#32, (fun _ => 0#8))).1)) && ((decide ((a1.getD i_36 (0#32, 0#32, (fun _ => 0#8))).2.1 = (b2.getD i_36 (0#32, 0#32, (fun _ => 0#8))).2.1)) && ((eqB 32 ((a1.getD i_36 (0#32, 0#32, (fun _ => 0#8))).2.2) ((b2.getD i_36 (0#32, 0#32, (fun _ => 0#8))).2.2)) && true)))) FLaw15.eqg81 rfl rfl rfl (EqV.struct (d := 9999) (l := [(73, 0), (73, 1), (71, 2)]) FLaw15.flds81 (.one [] [(1, fun _ => VU .u32 ((a1.getD i_36 (0#32, 0#32, (fun _ => 0#8))).2.1)), (32, fun q => VU .u8 (((a1.getD i_36 (0#32, 0#32, (fun _ => 0#8))).2.2) q))] [] [(1, fun _ => VU .u32 ((b2.getD i_36 (0#32, 0#32, (fun _ => 0#8))).2.1)), (32, fun q => VU .u8 (((b2.getD i_36 (0#32, 0#32, (fun _ => 0#8))).2.2) q))] (fun _ => VU .u32 ((a1.getD i_36 (0#32, 0#32, (fun _ => 0#8))).1)) (fun _ => VU .u32 ((b2.getD i_36 (0#32, 0#32, (fun _ => 0#8))).1)) rfl rfl rfl rfl FLaw15.sc73 rfl rfl (EqV.u (d := 9998) (a := ((a1.getD i_36 (0#32, 0#32, (fun _ => 0#8))).1)) (b := ((b2.getD i_36 (0#32, 0#32, (fun _ => 0#8))).1)) FLaw15.int73) (.one [(1, fun _ => VU .u32 ((a1.getD i_36 (0#32, 0#32, (fun _ => 0#8))).1))] [(32, fun q => VU .u8 (((a1.getD i_36 (0#32, 0#32, (fun _ => 0#8))).2.2) q))] [(1, fun _ => VU .u32 ((b2.getD i_36 (0#32, 0#32, (fun _ => 0#8))).1))] [(32, fun q => VU .u8 (((b2.getD i_36 (0#32, 0#32, (fun _ => 0#8))).2.2) q))] (fun _ => VU .u32 ((a1.getD i_36 (0#32, 0#32, (fun _ => 0#8))).2.1)) (fun _ => VU .u32 ((b2.getD i_36 (0#32, 0#32, (fun _ => 0#8))).2.1)) rfl rfl rfl rfl FLaw15.sc73 rfl rfl (EqV.u (d := 9998) (a := ((a1.getD i_36 (0#32, 0#32, (fun _ => 0#8))).2.1)) (b := ((b2.getD i_36 (0#32, 0#32, (fun _ => 0#8))).2.1)) FLaw15.int73) (.agg [(1, fun _ => VU .u32 ((a1.getD i_36 (0#32, 0#32, (fun _ => 0#8))).1)), (1, fun _ => VU .u32 ((a1.getD i_36 (0#32, 0#32, (fun _ => 0#8))).2.1))] [(32, fun q => VU .u8 (((a1.getD i_36 (0#32, 0#32, (fun _ => 0#8))).2.2) q))] [] [(1, fun _ => VU .u32 ((b2.getD i_36 (0#32, 0#32, (fun _ => 0#8))).1)), (1, fun _ => VU .u32 ((b2.getD i_36 (0#32, 0#32, (fun _ => 0#8))).2.1))] [(32, fun q => VU .u8 (((b2.getD i_36 (0#32, 0#32, (fun _ => 0#8))).2.2) q))] [] rfl rfl rfl rfl FLaw15.agg71 FLaw15.agg71 (EqV.arr (d := 9997) (F := ((a1.getD i_36 (0#32, 0#32, (fun _ => 0#8))).2.2)) (G := ((b2.getD i_36 (0#32, 0#32, (fun _ => 0#8))).2.2)) FLaw15.arrI71) .nil)))) rfl ?_
        refine Plan.nil ?_
        refine hK43 _ _ ?_; clear hK43
        by_cases hc49 : ((decide ((a1.getD i_36 (0#32, 0#32, (fun _ => 0#8))).1 = (b2.getD i_36 (0#32, 0#32, (fun _ => 0#8))).1)) && ((decide ((a1.getD i_36 (0#32, 0#32, (fun _ => 0#8))).2.1 = (b2.getD i_36 (0#32, 0#32, (fun _ => 0#8))).2.1)) && ((eqB 32 ((a1.getD i_36 (0#32, 0#32, (fun _ => 0#8))).2.2) ((b2.getD i_36 (0#32, 0#32, (fun _ => 0#8))).2.2)) && true))) = true
        ·
          replace hR := ifT hR hc49
          refine W.condF (congrArg Value.bool (congrArg Bool.not hc49)) ?_
          refine W.skip ?_
          refine blockR_norm ?_
          refine hK42 _ _ ?_; clear hK42
          refine W.regionT [(0, true), (1, true), (2, true)] (by kernel_rfl) ?_
          refine Plan.move_int rfl rfl ?_
          obtain ⟨hc50, hR⟩ := hR
          refine Plan.addN (a := i_36) (b := 1) rfl rfl rfl (by omega) ?_
          refine Plan.assign_int rfl rfl ?_
          refine Plan.nil ?_
          exact iterR_norm ⟨_, hR, (EnvHas.cons rfl (EnvHas.cons rfl (EnvHas.cons rfl EnvHas.nil))), h44⟩
        ·
          replace hR := ifF hR hc49
          refine W.condT (congrArg Value.bool (congrArg Bool.not (Bool.eq_false_iff.2 hc49))) ?_
          refine W.seq_k fun K51 hK51 => ?_
          refine W.regionT [(0, true)] (by kernel_rfl) ?_
          refine Plan.assign_bool rfl rfl ?_
          refine Plan.nil ?_
          refine hK51 _ _ ?_; clear hK51
          refine W.ret (blockR_ret (thenR_ret (iterR_ret (blockR_ret (thenR_ret (thenR_ret (finR_ret ?_)))))))
          replace hR := hR.2
          subst r
          refine RetOk.mk (.tmp_bool rfl .nil) ?_
          exact ⟨rfl, h44⟩
      ·
        replace hR := ifF hR hc41
        refine W.condF (congrArg Value.bool (decide_eq_false hc41)) ?_
        refine W.exit (thenR_exit (iterR_exit (blockR_here ?_)))
        exact ⟨(hx37 _ hR).symm, EnvHas.nil, h38⟩
    ·
      rintro ev52 wl52 ⟨hy52, he52, h52⟩
      obtain ⟨ev52, rfl⟩ := he52.open
      replace hR := hR037  hy52
      refine hK8 _ _ ?_; clear hK8
      refine W.seq_k fun K53 hK53 => ?_
      refine W.regionT [(0, true)] (by kernel_rfl) ?_
      refine Plan.assign_bool rfl rfl ?_
      refine Plan.nil ?_
      refine hK53 _ _ ?_; clear hK53
      refine W.ret (finR_ret ?_)
      subst r
      refine RetOk.mk (.tmp_bool rfl .nil) ?_
      exact ⟨rfl, h52⟩


set_option maxRecDepth 8000 in
set_option maxHeartbeats 1000000 in
theorem lethelaw15_sameKeys_ok {B : Nat} {w0 : Base} {w : World} {L : List Rg} {a1 : List (Nat → BitVec 8)} {aa1 : Option Addr} {na1 ca1 ia1 : Nat} (ha1 : LV D71 L ia1 aa1 na1 ca1 a1) {b2 : List (Nat → BitVec 8)} {ab2 : Option Addr} {nb2 cb2 ib2 : Nat} (hb2 : LV D71 L ib2 ab2 nb2 cb2 b2) {r : Bool} (hR : lethelaw15_sameKeys a1 b2 r) (HST : St B w0 (L) w) :
    Calls Try.prog 80 #[.slice aa1 na1 ca1, .slice ab2 nb2 cb2] w fun e w' => e = .returned (.bool r) ∧ St B w0 (L) w' := by
  refine W.enter 26 Try.func80 rfl rfl rfl ?_
  unfold lethelaw15_sameKeys at hR
  have ea1 := ha1.hl; subst ea1
  have eb2 := hb2.hl; subst eb2
  refine W.seq_k fun K3 hK3 => ?_
  refine W.regionT [(0, true)] (by kernel_rfl) ?_
  refine Plan.assign_bool rfl rfl ?_
  refine Plan.nil ?_
  refine hK3 _ _ ?_; clear hK3
  refine W.seq_k fun K4 hK4 => ?_
  refine W.seq_k fun K5 hK5 => ?_
  refine W.regionT [(0, true), (1, true), (2, true), (3, true), (4, true)] (by kernel_rfl) ?_
  refine Plan.move_slice rfl rfl ?_
  refine Plan.len FLaw15.isl66 rfl rfl ?_
  refine Plan.move_slice rfl rfl ?_
  refine Plan.len FLaw15.isl66 rfl rfl ?_
  refine Plan.cmpP (a := (((a1.length : Nat) : Int) : Int)) (b := (((b2.length : Nat) : Int) : Int)) (p := a1.length ≠ b2.length) rfl rfl rfl rfl icmp_neN ?_
  refine Plan.nil ?_
  refine hK5 _ _ ?_; clear hK5
  by_cases hc6 : a1.length ≠ b2.length
  ·
    replace hR := ifT hR hc6
    refine W.condT (congrArg Value.bool (decide_eq_true hc6)) ?_
    refine W.seq_k fun K7 hK7 => ?_
    refine W.regionT [(0, true)] (by kernel_rfl) ?_
    refine Plan.assign_bool rfl rfl ?_
    refine Plan.nil ?_
    refine hK7 _ _ ?_; clear hK7
    refine W.ret (thenR_ret (finR_ret ?_))
    subst r
    refine RetOk.mk (.tmp_bool rfl .nil) ?_
    exact ⟨rfl, HST⟩
  ·
    replace hR := ifF hR hc6
    refine W.condF (congrArg Value.bool (decide_eq_false hc6)) ?_
    refine W.skip ?_
    refine hK4 _ _ ?_; clear hK4
    refine W.seq_k fun K8 hK8 => ?_
    refine W.seq_k fun K9 hK9 => ?_
    refine W.regionT [(0, true)] (by kernel_rfl) ?_
    refine Plan.assign_int rfl rfl ?_
    refine Plan.nil ?_
    refine hK9 _ _ ?_; clear hK9
    obtain ⟨x37, hI37, hR037⟩ := hR
    refine W.cutN (fun e w => x37 = some () ∧ EnvHas e [] ∧ St B w0 (L) w) ?_ ?_
    ·
      refine W.block ?_
      refine W.iter hI37 (fun (s37 : Nat) e w => EnvHas e [(0, .slice aa1 a1.length ca1), (1, .slice ab2 b2.length cb2), (5, VN s37)] ∧ St B w0 (L) w) ⟨(EnvHas.cons rfl (EnvHas.cons rfl (EnvHas.cons rfl EnvHas.nil))), HST⟩ ?_
      rintro i_36 o37 hR hx37 ev38 wl38 ⟨he38, h38⟩
      obtain ⟨ev38, rfl⟩ := he38.open
      unfold lethelaw15_sameKeys_l0 at hR
      refine W.seq_k fun K39 hK39 => ?_
      refine W.seq_k fun K40 hK40 => ?_
      refine W.regionT [(0, true), (1, true), (2, true), (3, true)] (by kernel_rfl) ?_
      refine Plan.move_int rfl rfl ?_
      refine Plan.move_slice rfl rfl ?_
      refine Plan.len FLaw15.isl66 rfl rfl ?_
      refine Plan.cmpP (a := (((i_36 : Nat) : Int) : Int)) (b := (((a1.length : Nat) : Int) : Int)) (p := i_36 < a1.length) rfl rfl rfl rfl icmp_ltN ?_
      refine Plan.nil ?_
      refine hK40 _ _ ?_; clear hK40
      by_cases hc41 : i_36 < a1.length
      ·
        replace hR := ifT hR hc41
        refine W.condT (congrArg Value.bool (decide_eq_true hc41)) ?_
        refine W.skip ?_
        refine hK39 _ _ ?_; clear hK39
        refine W.seq_k fun K42 hK42 => ?_
        refine W.block ?_
        refine W.seq_k fun K43 hK43 => ?_
        refine W.regionD FLaw15.mixed [(0, true), (1, true), (2, true), (3, true), (4, true), (5, true), (6, true), (7, true), (8, true)] (by kernel_rfl) ?_
        have h44 := h38.drew
        refine Plan.move_slice rfl rfl ?_
        refine Plan.move_int rfl rfl ?_
        obtain ⟨hc45, hR⟩ := hR
        refine Plan.idxLVS (D := D71) (j := i_36) h44 ha1 FLaw15.sl66 rfl rfl rfl hc45 ?_
        refine Plan.loadLV (D := D71) (X := a1) (j := i_36) (sz := 32) h44 (fun _ => 0#8) ha1 rfl rfl hc45 rfl FLaw15.agg71 fun b46 r46 hs46 hr46 => ?_
        refine Plan.move_slice rfl rfl ?_
        refine Plan.move_int rfl rfl ?_
        obtain ⟨hc47, hR⟩ := hR
        refine Plan.idxLVS (D := D71) (j := i_36) h44 hb2 FLaw15.sl66 rfl rfl rfl hc47 ?_
        refine Plan.loadLV (D := D71) (X := b2) (j := i_36) (sz := 32) h44 (fun _ => 0#8) hb2 rfl rfl hc47 rfl FLaw15.agg71 fun b48 r48 hs48 hr48 => ?_
        refine Plan.neArrV (b := (eqB 32 (a1.getD i_36 (fun _ => 0#8)) (b2.getD i_36 (fun _ => 0#8)))) FLaw15.arrI71 rfl rfl rfl rfl ?_
        refine Plan.nil ?_
        refine hK43 _ _ ?_; clear hK43
        by_cases hc49 : (eqB 32 (a1.getD i_36 (fun _ => 0#8)) (b2.getD i_36 (fun _ => 0#8))) = true
        ·
          replace hR := ifT hR hc49
          refine W.condF (congrArg Value.bool (congrArg Bool.not hc49)) ?_
          refine W.skip ?_
          refine blockR_norm ?_
          refine hK42 _ _ ?_; clear hK42
          refine W.regionT [(0, true), (1, true), (2, true)] (by kernel_rfl) ?_
          refine Plan.move_int rfl rfl ?_
          obtain ⟨hc50, hR⟩ := hR
          refine Plan.addN (a := i_36) (b := 1) rfl rfl rfl (by omega) ?_
          refine Plan.assign_int rfl rfl ?_
          refine Plan.nil ?_
          exact iterR_norm ⟨_, hR, (EnvHas.cons rfl (EnvHas.cons rfl (EnvHas.cons rfl EnvHas.nil))), h44⟩
        ·
          replace hR := ifF hR hc49
          refine W.condT (congrArg Value.bool (congrArg Bool.not (Bool.eq_false_iff.2 hc49))) ?_
          refine W.seq_k fun K51 hK51 => ?_
          refine W.regionT [(0, true)] (by kernel_rfl) ?_
          refine Plan.assign_bool rfl rfl ?_
          refine Plan.nil ?_
          refine hK51 _ _ ?_; clear hK51
          refine W.ret (blockR_ret (thenR_ret (iterR_ret (blockR_ret (thenR_ret (thenR_ret (finR_ret ?_)))))))
          replace hR := hR.2
          subst r
          refine RetOk.mk (.tmp_bool rfl .nil) ?_
          exact ⟨rfl, h44⟩
      ·
        replace hR := ifF hR hc41
        refine W.condF (congrArg Value.bool (decide_eq_false hc41)) ?_
        refine W.exit (thenR_exit (iterR_exit (blockR_here ?_)))
        exact ⟨(hx37 _ hR).symm, EnvHas.nil, h38⟩
    ·
      rintro ev52 wl52 ⟨hy52, he52, h52⟩
      obtain ⟨ev52, rfl⟩ := he52.open
      replace hR := hR037  hy52
      refine hK8 _ _ ?_; clear hK8
      refine W.seq_k fun K53 hK53 => ?_
      refine W.regionT [(0, true)] (by kernel_rfl) ?_
      refine Plan.assign_bool rfl rfl ?_
      refine Plan.nil ?_
      refine hK53 _ _ ?_; clear hK53
      refine W.ret (finR_ret ?_)
      subst r
      refine RetOk.mk (.tmp_bool rfl .nil) ?_
      exact ⟨rfl, h52⟩

end Go.Proofs.Ytbkgblhmlenocaa
