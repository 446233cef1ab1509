/-
  THE LAW 'AgreeIsMade' OF THE GIVEN PROGRAM: FOR EVERY INPUT SHE RETURNS TRUE AND THE INPUT READS AS IT DID. CONDITIONS: the row's own cells (laid: the package-level variables that she lists begin as the text lays them; the card ties them).
-/
import Derived.Test.YtjclppnbbpnfnaaDoorCards
import Derived.Test.YtjclppnbbpnfnaaDoorTie
import Derived.WalkKit
import Derived.ProofKit
import Derived.OpenShut
import Derived.ShutString
import Derived.ChangeOld
import Derived.Below
import Derived.Deep.DeepHandedRow
import Derived.Lib.LaidTab
import Derived.Stop.LaidErr
import Derived.Test.YtjclppnbbpnfnaaDoorEb
import Derived.Test.YtjclppnbbpnfnaaDoorWAgreeIsMade
import Derived.Test.YtjclppnbbpnfnaaDoorPAgreeIsMade
namespace Go.Proofs.YtjclppnbbpnfnaaDoor.agreeIsMade
open Go.ChangeShapes Go.WideShapes Go.ChangeAt Go.RowKit Go.LW
set_option linter.unusedSimpArgs false
set_option linter.unusedVariables false
set_option linter.unusedSectionVars false

theorem own : ownKnob Tryd.prog.godebug = none := by kernel_rfl
theorem laidOut : laidOutB Tryd.prog = true := by kernel_rfl
theorem g0 : Tryd.prog.globalNamed "lethe/field.twice" = some 0 := by kernel_rfl
theorem gt0 : (Tryd.prog.globals[0]?).map (·.type) = some 69 := by kernel_rfl
theorem gc0 : Tryd.prog.cellsOf 69 = 5 := by kernel_rfl
theorem ge0 : Tryd.prog.cellsOf 67 = 1 := by kernel_rfl
def zs0 : List Int := [4503599627370458, 4503599627370494, 4503599627370494, 4503599627370494, 4503599627370494]
theorem zf0 : (List.range 5).all (fun i => zs0.getD i 0 == ((twice5 i).toNat : Int)) = true := by decide +kernel
theorem table0 {W : World} (h : laidMetH Tryd.prog Rows.agreeIsMadeRow.laid W) : Lib.TabIs Tryd.prog W "lethe/field.twice" .u64 zs0 :=
  Lib.tabIs_of_head g0 gt0 Tryd.underlying69 Tryd.underlying67 ge0 gc0 (show laidMet Tryd.prog _ W from h)
theorem g1 : Tryd.prog.globalNamed "lethe/sha.constants" = some 3 := by kernel_rfl
theorem gt1 : (Tryd.prog.globals[3]?).map (·.type) = some 126 := by kernel_rfl
theorem gc1 : Tryd.prog.cellsOf 126 = 64 := by kernel_rfl
theorem ge1 : Tryd.prog.cellsOf 26 = 1 := by kernel_rfl
def zs1 : List Int := [1116352408, 1899447441, 3049323471, 3921009573, 961987163, 1508970993, 2453635748, 2870763221, 3624381080, 310598401, 607225278, 1426881987, 1925078388, 2162078206, 2614888103, 3248222580, 3835390401, 4022224774, 264347078, 604807628, 770255983, 1249150122, 1555081692, 1996064986, 2554220882, 2821834349, 2952996808, 3210313671, 3336571891, 3584528711, 113926993, 338241895, 666307205, 773529912, 1294757372, 1396182291, 1695183700, 1986661051, 2177026350, 2456956037, 2730485921, 2820302411, 3259730800, 3345764771, 3516065817, 3600352804, 4094571909, 275423344, 430227734, 506948616, 659060556, 883997877, 958139571, 1322822218, 1537002063, 1747873779, 1955562222, 2024104815, 2227730452, 2361852424, 2428436474, 2756734187, 3204031479, 3329325298]
theorem zf1 : (List.range 64).all (fun i => zs1.getD i 0 == ((K256 i).toNat : Int)) = true := by decide +kernel
theorem table1 {W : World} (h : laidMetH Tryd.prog Rows.agreeIsMadeRow.laid W) : Lib.TabIs Tryd.prog W "lethe/sha.constants" .u32 zs1 :=
  Lib.tabIs_of_head g1 gt1 Tryd.underlying126 Tryd.underlying26 ge1 gc1 (laidMet.tail (show laidMet Tryd.prog _ W from h))
theorem g2 : Tryd.prog.globalNamed "lethe/sha.begin" = some 1 := by kernel_rfl
theorem gt2 : (Tryd.prog.globals[1]?).map (·.type) = some 118 := by kernel_rfl
theorem gc2 : Tryd.prog.cellsOf 118 = 8 := by kernel_rfl
theorem ge2 : Tryd.prog.cellsOf 26 = 1 := by kernel_rfl
def zs2 : List Int := [1779033703, 3144134277, 1013904242, 2773480762, 1359893119, 2600822924, 528734635, 1541459225]
theorem zf2 : (List.range 8).all (fun i => zs2.getD i 0 == ((H256 i).toNat : Int)) = true := by decide +kernel
theorem table2 {W : World} (h : laidMetH Tryd.prog Rows.agreeIsMadeRow.laid W) : Lib.TabIs Tryd.prog W "lethe/sha.begin" .u32 zs2 :=
  Lib.tabIs_of_head g2 gt2 Tryd.underlying118 Tryd.underlying26 ge2 gc2 (laidMet.tail (laidMet.tail (show laidMet Tryd.prog _ W from h)))
theorem ts25 : Tryd.prog.cellTypes Tryd.prog.depth 25 = some (List.replicate 32 5 ++ (List.replicate 32 5 ++ ([] : List TypeId))) := by kernel_rfl
theorem co25 : Tryd.prog.cellsOf 25 = ((List.replicate 32 5 ++ (List.replicate 32 5 ++ ([] : List TypeId)))).length := by kernel_rfl
theorem ts28 : Tryd.prog.cellTypes Tryd.prog.depth 28 = some (List.replicate 32 5 ++ (26 :: (List.replicate 32 5 ++ ([] : List TypeId)))) := by kernel_rfl
theorem co28 : Tryd.prog.cellsOf 28 = ((List.replicate 32 5 ++ (26 :: (List.replicate 32 5 ++ ([] : List TypeId))))).length := by kernel_rfl
set_option maxRecDepth 100000 in
theorem contract (H : Type) (enc : TypeId × Value → H) (W : World) (base : Nat) (args : Array Value) (ds gs : List (DataW H)) (before : List MemPlace)
    (hval : ∀ (j : Nat) t v, Tryd.f3.params[j]? = some t → args[j]? = some v → Value.okWide Tryd.prog W .any base t v)
    (hW : DataW.Whole enc Tryd.prog Tryd.f3.params.toList Rows.agreeIsMadeSpec.vars false W args.toList ds gs before) (hL : laidMetH Tryd.prog Rows.agreeIsMadeRow.laid W) :
    Calls Tryd.prog 3 args W fun e W' => ∃ v, e = .returned v ∧ Rows.agreeIsMadeSpec.post enc Tryd.prog Tryd.f3 false true false false W args v W' := by
  have hW' := hW
  obtain ⟨p, q, hA0, hV, rfl, hfz, hnd⟩ := hW
  have hA : DataW.TrodAll enc Tryd.prog W 0 (fun _ => true) true Tryd.f3.params.toList args.toList ds p := hA0
  rw [Tryd.params3] at hA hval
  obtain ⟨v0, vs0, d0, ds0, p0, q0, hargs0, rfl, rfl, h0, r0⟩ := trodAll_cons hA
  obtain ⟨v1, vs1, d1, ds1, p1, q1, hargs1, rfl, rfl, h1, r1⟩ := trodAll_cons r0
  obtain ⟨v2, vs2, d2, ds2, p2, q2, hargs2, rfl, rfl, h2, r2⟩ := trodAll_cons r1
  obtain ⟨rfl, rfl, rfl⟩ := trodAll_nil r2
  obtain rfl : args = #[v0, v1, v2] := by cases args; simp_all
  obtain ⟨rfl, rfl⟩ := trodVars_none hV
  have k0 := h0
  have lt0 : ∀ x ∈ p0, x.block < W.heap.size := by obtain ⟨m, hm⟩ := k0; exact DataW.trod_lt m _ _ _ hm
  obtain ⟨cs0, ag0, ck0⟩ := arg_str Tryd.underlying25 ts25 co25 (hval 0 25 v0 rfl rfl)
  obtain ⟨X0_0, cs0, ag0, ck0⟩ := ag0.part (n := 32) .u8 Tryd.underlying5 ck0
  obtain ⟨X0_1, cs0, ag0, ck0⟩ := ag0.part (n := 32) .u8 Tryd.underlying5 ck0
  replace ag0 := ag0.fin ck0
  simp only [List.nil_append, List.cons_append] at ag0
  subst ag0
  have k1 := h1
  have lt1 : ∀ x ∈ p1, x.block < W.heap.size := by obtain ⟨m, hm⟩ := k1; exact DataW.trod_lt m _ _ _ hm
  obtain ⟨cs1, ag1, ck1⟩ := arg_str Tryd.underlying25 ts25 co25 (hval 1 25 v1 rfl rfl)
  obtain ⟨X1_0, cs1, ag1, ck1⟩ := ag1.part (n := 32) .u8 Tryd.underlying5 ck1
  obtain ⟨X1_1, cs1, ag1, ck1⟩ := ag1.part (n := 32) .u8 Tryd.underlying5 ck1
  replace ag1 := ag1.fin ck1
  simp only [List.nil_append, List.cons_append] at ag1
  subst ag1
  have k2 := h2
  have lt2 : ∀ x ∈ p2, x.block < W.heap.size := by obtain ⟨m, hm⟩ := k2; exact DataW.trod_lt m _ _ _ hm
  obtain ⟨cs2, ag2, ck2⟩ := arg_str Tryd.underlying28 ts28 co28 (hval 2 28 v2 rfl rfl)
  obtain ⟨X2_0, cs2, ag2, ck2⟩ := ag2.part (n := 32) .u8 Tryd.underlying5 ck2
  obtain ⟨X2_1, cs2, ag2, ck2⟩ := ag2.num .u32 Tryd.underlying26 ck2
  obtain ⟨X2_2, cs2, ag2, ck2⟩ := ag2.part (n := 32) .u8 Tryd.underlying5 ck2
  replace ag2 := ag2.fin ck2
  simp only [List.nil_append, List.cons_append] at ag2
  subst ag2
  clear hA0
  have hst := St.init W.heap.size W (Nat.le_refl _)
  have hro : roL [] := roL.nil
  obtain ⟨hst, hro⟩ := hst.tab hro (F := twice5) (table0 hL) g0 5 (by decide +kernel) zf0
  obtain ⟨hst, hro⟩ := hst.tab hro (F := K256) (table1 hL) g1 64 (by decide +kernel) zf1
  obtain ⟨hst, hro⟩ := hst.tab hro (F := H256) (table2 hL) g2 8 (by decide +kernel) zf2
  have hR : lethelaw17_AgreeIsMade X0_0 X0_1 X1_0 X1_1 X2_0 X2_1 X2_2 true := agreeIsMade_true X0_0 X0_1 X1_0 X1_1 X2_0 X2_1 X2_2
  refine (lethelaw17_AgreeIsMade_ok (r := true) (iG0 := 2) rfl (iG1 := 0) rfl (iG3 := 1) rfl hR hst).mono fun e W' ⟨he, hs⟩ => ?_
  have bel := hs.below
  subst he
  exact ⟨_, rfl, _, _, _, [], _, [], hW', trodAll_mk1 (shut_bool Tryd.underlying4 _), (trodAll_cons_mk (Below.trod laidOut (by kernel_rfl) (of_decide_eq_true (by kernel_rfl)) k0 bel lt0) (trodAll_cons_mk (Below.trod laidOut (by kernel_rfl) (of_decide_eq_true (by kernel_rfl)) k1 bel lt1) (trodAll_cons_mk (Below.trod laidOut (by kernel_rfl) (of_decide_eq_true (by kernel_rfl)) k2 bel lt2) trodAll_mk0))), rfl, bel.frame _, fun h => by cases h⟩
@[reducible] def wA : Array Value := #[Value.agg (Array.replicate 32 (Value.int .u8 0) ++ Array.replicate 32 (Value.int .u8 0)), Value.agg (Array.replicate 32 (Value.int .u8 0) ++ Array.replicate 32 (Value.int .u8 0)), Value.agg (Array.replicate 32 (Value.int .u8 0) ++ Array.replicate 1 (Value.int .u32 0) ++ Array.replicate 32 (Value.int .u8 0))]
/-- A WORLD FOR THE WITNESS: the settled one, the tables as their initialisers lay them. -/
noncomputable def laidWorld (os : Os) : World := { World.holding Tryd.prog os ⟨#[], #[], []⟩ with heap := ((((World.holding Tryd.prog os ⟨#[], #[], []⟩).heap.modify 0 fun
      | .cells _ t frozen => .cells #[.int .u64 4503599627370458, .int .u64 4503599627370494, .int .u64 4503599627370494, .int .u64 4503599627370494, .int .u64 4503599627370494] t frozen
      | o => o).modify 3 fun
      | .cells _ t frozen => .cells #[.int .u32 1116352408, .int .u32 1899447441, .int .u32 3049323471, .int .u32 3921009573, .int .u32 961987163, .int .u32 1508970993, .int .u32 2453635748, .int .u32 2870763221, .int .u32 3624381080, .int .u32 310598401, .int .u32 607225278, .int .u32 1426881987, .int .u32 1925078388, .int .u32 2162078206, .int .u32 2614888103, .int .u32 3248222580, .int .u32 3835390401, .int .u32 4022224774, .int .u32 264347078, .int .u32 604807628, .int .u32 770255983, .int .u32 1249150122, .int .u32 1555081692, .int .u32 1996064986, .int .u32 2554220882, .int .u32 2821834349, .int .u32 2952996808, .int .u32 3210313671, .int .u32 3336571891, .int .u32 3584528711, .int .u32 113926993, .int .u32 338241895, .int .u32 666307205, .int .u32 773529912, .int .u32 1294757372, .int .u32 1396182291, .int .u32 1695183700, .int .u32 1986661051, .int .u32 2177026350, .int .u32 2456956037, .int .u32 2730485921, .int .u32 2820302411, .int .u32 3259730800, .int .u32 3345764771, .int .u32 3516065817, .int .u32 3600352804, .int .u32 4094571909, .int .u32 275423344, .int .u32 430227734, .int .u32 506948616, .int .u32 659060556, .int .u32 883997877, .int .u32 958139571, .int .u32 1322822218, .int .u32 1537002063, .int .u32 1747873779, .int .u32 1955562222, .int .u32 2024104815, .int .u32 2227730452, .int .u32 2361852424, .int .u32 2428436474, .int .u32 2756734187, .int .u32 3204031479, .int .u32 3329325298] t frozen
      | o => o).modify 1 fun
      | .cells _ t frozen => .cells #[.int .u32 1779033703, .int .u32 3144134277, .int .u32 1013904242, .int .u32 2773480762, .int .u32 1359893119, .int .u32 2600822924, .int .u32 528734635, .int .u32 1541459225] t frozen
      | o => o) }
theorem laid_met (os : Os) : laidMet Tryd.prog Rows.agreeIsMadeRow.laid ((laidWorld os).forCall (fun _ _ => 0) ⟨#[], wA, []⟩).memory :=
  laidMet_of_run' 8 (by kernel_rfl) (by kernel_rfl)
theorem reads (os : Os) {H : Type} (enc : TypeId × Value → H) : ∃ places, DataW.whole enc Tryd.prog ((laidWorld os).forCall (fun _ _ => 0) ⟨#[], wA, []⟩).memory Tryd.f3.params.toList Rows.agreeIsMadeSpec.vars false (wA : Array Value).toList 8 = some ([.agg [.agg [.lit (.int .u8 0), .lit (.int .u8 0), .lit (.int .u8 0), .lit (.int .u8 0), .lit (.int .u8 0), .lit (.int .u8 0), .lit (.int .u8 0), .lit (.int .u8 0), .lit (.int .u8 0), .lit (.int .u8 0), .lit (.int .u8 0), .lit (.int .u8 0), .lit (.int .u8 0), .lit (.int .u8 0), .lit (.int .u8 0), .lit (.int .u8 0), .lit (.int .u8 0), .lit (.int .u8 0), .lit (.int .u8 0), .lit (.int .u8 0), .lit (.int .u8 0), .lit (.int .u8 0), .lit (.int .u8 0), .lit (.int .u8 0), .lit (.int .u8 0), .lit (.int .u8 0), .lit (.int .u8 0), .lit (.int .u8 0), .lit (.int .u8 0), .lit (.int .u8 0), .lit (.int .u8 0), .lit (.int .u8 0)], .agg [.lit (.int .u8 0), .lit (.int .u8 0), .lit (.int .u8 0), .lit (.int .u8 0), .lit (.int .u8 0), .lit (.int .u8 0), .lit (.int .u8 0), .lit (.int .u8 0), .lit (.int .u8 0), .lit (.int .u8 0), .lit (.int .u8 0), .lit (.int .u8 0), .lit (.int .u8 0), .lit (.int .u8 0), .lit (.int .u8 0), .lit (.int .u8 0), .lit (.int .u8 0), .lit (.int .u8 0), .lit (.int .u8 0), .lit (.int .u8 0), .lit (.int .u8 0), .lit (.int .u8 0), .lit (.int .u8 0), .lit (.int .u8 0), .lit (.int .u8 0), .lit (.int .u8 0), .lit (.int .u8 0), .lit (.int .u8 0), .lit (.int .u8 0), .lit (.int .u8 0), .lit (.int .u8 0), .lit (.int .u8 0)]], .agg [.agg [.lit (.int .u8 0), .lit (.int .u8 0), .lit (.int .u8 0), .lit (.int .u8 0), .lit (.int .u8 0), .lit (.int .u8 0), .lit (.int .u8 0), .lit (.int .u8 0), .lit (.int .u8 0), .lit (.int .u8 0), .lit (.int .u8 0), .lit (.int .u8 0), .lit (.int .u8 0), .lit (.int .u8 0), .lit (.int .u8 0), .lit (.int .u8 0), .lit (.int .u8 0), .lit (.int .u8 0), .lit (.int .u8 0), .lit (.int .u8 0), .lit (.int .u8 0), .lit (.int .u8 0), .lit (.int .u8 0), .lit (.int .u8 0), .lit (.int .u8 0), .lit (.int .u8 0), .lit (.int .u8 0), .lit (.int .u8 0), .lit (.int .u8 0), .lit (.int .u8 0), .lit (.int .u8 0), .lit (.int .u8 0)], .agg [.lit (.int .u8 0), .lit (.int .u8 0), .lit (.int .u8 0), .lit (.int .u8 0), .lit (.int .u8 0), .lit (.int .u8 0), .lit (.int .u8 0), .lit (.int .u8 0), .lit (.int .u8 0), .lit (.int .u8 0), .lit (.int .u8 0), .lit (.int .u8 0), .lit (.int .u8 0), .lit (.int .u8 0), .lit (.int .u8 0), .lit (.int .u8 0), .lit (.int .u8 0), .lit (.int .u8 0), .lit (.int .u8 0), .lit (.int .u8 0), .lit (.int .u8 0), .lit (.int .u8 0), .lit (.int .u8 0), .lit (.int .u8 0), .lit (.int .u8 0), .lit (.int .u8 0), .lit (.int .u8 0), .lit (.int .u8 0), .lit (.int .u8 0), .lit (.int .u8 0), .lit (.int .u8 0), .lit (.int .u8 0)]], .agg [.agg [.lit (.int .u8 0), .lit (.int .u8 0), .lit (.int .u8 0), .lit (.int .u8 0), .lit (.int .u8 0), .lit (.int .u8 0), .lit (.int .u8 0), .lit (.int .u8 0), .lit (.int .u8 0), .lit (.int .u8 0), .lit (.int .u8 0), .lit (.int .u8 0), .lit (.int .u8 0), .lit (.int .u8 0), .lit (.int .u8 0), .lit (.int .u8 0), .lit (.int .u8 0), .lit (.int .u8 0), .lit (.int .u8 0), .lit (.int .u8 0), .lit (.int .u8 0), .lit (.int .u8 0), .lit (.int .u8 0), .lit (.int .u8 0), .lit (.int .u8 0), .lit (.int .u8 0), .lit (.int .u8 0), .lit (.int .u8 0), .lit (.int .u8 0), .lit (.int .u8 0), .lit (.int .u8 0), .lit (.int .u8 0)], .lit (.int .u32 0), .agg [.lit (.int .u8 0), .lit (.int .u8 0), .lit (.int .u8 0), .lit (.int .u8 0), .lit (.int .u8 0), .lit (.int .u8 0), .lit (.int .u8 0), .lit (.int .u8 0), .lit (.int .u8 0), .lit (.int .u8 0), .lit (.int .u8 0), .lit (.int .u8 0), .lit (.int .u8 0), .lit (.int .u8 0), .lit (.int .u8 0), .lit (.int .u8 0), .lit (.int .u8 0), .lit (.int .u8 0), .lit (.int .u8 0), .lit (.int .u8 0), .lit (.int .u8 0), .lit (.int .u8 0), .lit (.int .u8 0), .lit (.int .u8 0), .lit (.int .u8 0), .lit (.int .u8 0), .lit (.int .u8 0), .lit (.int .u8 0), .lit (.int .u8 0), .lit (.int .u8 0), .lit (.int .u8 0), .lit (.int .u8 0)]]], [], places) :=
  ⟨[], by kernel_rfl⟩
set_option maxRecDepth 100000 in
theorem lifted (os : Os) (started : os.Started) (H : Type) (enc : TypeId × Value → H) (F : Stop.Interp) :
    ReturnsInHanded {} Tryd.checked os 3 .any ((OpenSpec.ofChange Rows.agreeIsMadeSpec).preRow enc Tryd.prog Tryd.f3 Rows.agreeIsMadeRow.domain false Rows.agreeIsMadeRow.laid) (((OpenSpec.ofChange Rows.agreeIsMadeSpec).at F).post enc Tryd.prog Tryd.f3 false true false false) := by
  obtain ⟨places, hx⟩ := reads os enc
  refine returnsInHanded_of_row (C := Tryd.checked) (s := (OpenSpec.ofChange Rows.agreeIsMadeSpec)) own started (by kernel_rfl) Tryd.func3
    (witness_row_at (enc := enc) (C := Tryd.checked) false (laidWorld os) wA rfl (by kernel_rfl) (by kernel_rfl) (by kernel_rfl)
      (OpenSpec.preRow_of_cond 8 hx (by kernel_rfl) (fun k hk => by cases hk) (by kernel_rfl) (laid_met os))) ?_
  intro W base args ds gs before hval hW _ _ _ hL _ _
  exact contract H enc W base args ds gs before hval hW hL
theorem said : Rows.AgreeIsMadeSaid :=
  OpenClaim.holds_of_cond 3 Tryd.f3 rfl rfl rfl rfl rfl rfl rfl ⟨rfl, rfl, rfl, rfl, rfl⟩ rfl rfl rfl rfl rfl (by kernel_rfl) Tryd.func3 (by kernel_rfl)
    (of_decide_eq_true (by kernel_rfl)) (by unfold Func.isWrapper; first | (rw [if_pos (by decide +kernel)]; kernel_rfl) | (rw [if_neg (by decide +kernel)]; exact ⟨rfl, rfl⟩))
    (fun os started H enc _ F => by rw [OpenClaim.pre_eq_preRow]; exact lifted os started H enc F)
theorem plain (f : FuncId) (fn : Func) (hf : Tryd.pinned.checked.prog.funcNamed "lethe/lethelaw17.AgreeIsMade" = some f) (hfn : Tryd.pinned.checked.prog.funcs[f]? = some fn) :
    false = Tryd.pinned.checked.prog.looks [] ∧ ∀ (j : Nat) t, fn.params[j]? = some t → Tryd.pinned.checked.prog.wantsStandIn t = false := by
  obtain rfl : f = 3 := Option.some.inj ((show Tryd.prog.funcNamed "lethe/lethelaw17.AgreeIsMade" = some 3 by kernel_rfl).symm.trans hf) |>.symm
  obtain rfl : fn = Tryd.f3 := (Option.some.inj (Tryd.func3.symm.trans hfn)).symm
  refine ⟨by kernel_rfl, fun j t ht => ?_⟩
  rw [Tryd.params3] at ht
  have hm := Array.mem_of_getElem? ht
  simp at hm
  rcases (show t = 25 ∨ t = 28 by (first | (simpa using hm) | (rcases hm with h1 | h1 <;> simp [h1]) | (rcases hm with h1 | h1 | h1 <;> simp [h1]))) with rfl | rfl
  · exact (show Tryd.prog.wantsStandIn 25 = false by kernel_rfl)
  · exact (show Tryd.prog.wantsStandIn 28 = false by kernel_rfl)
/-- THE CARD. -/
theorem card : Rows.AgreeIsMadeCardSaid :=
  Claim7.holds_tied_plain_at .later [] _ _ _ _ said (fun _ h => by cases h) (by kernel_rfl) (fun _ h => by cases h) agreeIsMade_row_tie rfl ⟨rfl, rfl⟩ (by kernel_rfl) rfl plain (by kernel_rfl)
end Go.Proofs.YtjclppnbbpnfnaaDoor.agreeIsMade
namespace Go.Proofs.YtjclppnbbpnfnaaDoor
theorem agreeIsMade_holds : Rows.AgreeIsMadeCardSaid := agreeIsMade.card
end Go.Proofs.YtjclppnbbpnfnaaDoor
