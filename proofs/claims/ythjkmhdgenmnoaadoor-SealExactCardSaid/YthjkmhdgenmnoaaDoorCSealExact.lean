/-
  THE LAW 'SealExact' OF THE GIVEN PROGRAM: FOR EVERY INPUT SHE RETURNS TRUE AND THE INPUT READS AS IT DID. CONDITIONS: the row's own cells (laid: the package-level variables that she lists begin as the text lays them; the card ties them).
-/
import Derived.Test.YthjkmhdgenmnoaaDoorCards
import Derived.Test.YthjkmhdgenmnoaaDoorTie
import Derived.WalkKit
import Derived.ProofKit
import Derived.OpenShut
import Derived.ShutString
import Derived.ChangeOld
import Derived.Below
import Derived.Deep.DeepHandedRow
import Derived.Lib.LaidTab
import Derived.Stop.LaidErr
import Derived.SizedLaws
import Derived.Test.YthjkmhdgenmnoaaDoorEc
import Derived.Test.YthjkmhdgenmnoaaDoorEls
import Derived.Test.YthjkmhdgenmnoaaDoorWSealExact
import Derived.Test.YthjkmhdgenmnoaaDoorPSealExact
namespace Go.Proofs.YthjkmhdgenmnoaaDoor.sealExact
open Go.ChangeShapes Go.WideShapes Go.ChangeAt Go.RowKit Go.LW
set_option linter.unusedSimpArgs false
set_option linter.unusedVariables false
set_option linter.unusedSectionVars false

theorem own : ownKnob Tryd.prog.godebug = none := by kernel_rfl
theorem laidOut : laidOutB Tryd.prog = true := by kernel_rfl
theorem g0 : Tryd.prog.globalNamed "lethe/letheref02.constants" = some 3 := by kernel_rfl
theorem gt0 : (Tryd.prog.globals[3]?).map (·.type) = some 119 := by kernel_rfl
theorem gc0 : Tryd.prog.cellsOf 119 = 64 := by kernel_rfl
theorem ge0 : Tryd.prog.cellsOf 73 = 1 := by kernel_rfl
def zs0 : List Int := [1116352408, 1899447441, 3049323471, 3921009573, 961987163, 1508970993, 2453635748, 2870763221, 3624381080, 310598401, 607225278, 1426881987, 1925078388, 2162078206, 2614888103, 3248222580, 3835390401, 4022224774, 264347078, 604807628, 770255983, 1249150122, 1555081692, 1996064986, 2554220882, 2821834349, 2952996808, 3210313671, 3336571891, 3584528711, 113926993, 338241895, 666307205, 773529912, 1294757372, 1396182291, 1695183700, 1986661051, 2177026350, 2456956037, 2730485921, 2820302411, 3259730800, 3345764771, 3516065817, 3600352804, 4094571909, 275423344, 430227734, 506948616, 659060556, 883997877, 958139571, 1322822218, 1537002063, 1747873779, 1955562222, 2024104815, 2227730452, 2361852424, 2428436474, 2756734187, 3204031479, 3329325298]
theorem zf0 : (List.range 64).all (fun i => zs0.getD i 0 == ((K64 i).toNat : Int)) = true := by decide +kernel
theorem table0 {W : World} (h : laidMetH Tryd.prog Rows.sealExactRow.laid W) : Lib.TabIs Tryd.prog W "lethe/letheref02.constants" .u64 zs0 :=
  Lib.tabIs_of_head g0 gt0 Tryd.underlying119 Tryd.underlying73 ge0 gc0 (show laidMet Tryd.prog _ W from h)
theorem g1 : Tryd.prog.globalNamed "lethe/letheref02.begin" = some 2 := by kernel_rfl
theorem gt1 : (Tryd.prog.globals[2]?).map (·.type) = some 118 := by kernel_rfl
theorem gc1 : Tryd.prog.cellsOf 118 = 8 := by kernel_rfl
theorem ge1 : Tryd.prog.cellsOf 73 = 1 := by kernel_rfl
def zs1 : List Int := [1779033703, 3144134277, 1013904242, 2773480762, 1359893119, 2600822924, 528734635, 1541459225]
theorem zf1 : (List.range 8).all (fun i => zs1.getD i 0 == ((H64 i).toNat : Int)) = true := by decide +kernel
theorem table1 {W : World} (h : laidMetH Tryd.prog Rows.sealExactRow.laid W) : Lib.TabIs Tryd.prog W "lethe/letheref02.begin" .u64 zs1 :=
  Lib.tabIs_of_head g1 gt1 Tryd.underlying118 Tryd.underlying73 ge1 gc1 (laidMet.tail (show laidMet Tryd.prog _ W from h))
theorem g2 : Tryd.prog.globalNamed "lethe/sha.constants" = some 1 := by kernel_rfl
theorem gt2 : (Tryd.prog.globals[1]?).map (·.type) = some 107 := by kernel_rfl
theorem gc2 : Tryd.prog.cellsOf 107 = 64 := by kernel_rfl
theorem ge2 : Tryd.prog.cellsOf 93 = 1 := by kernel_rfl
def zs2 : List Int := [1116352408, 1899447441, 3049323471, 3921009573, 961987163, 1508970993, 2453635748, 2870763221, 3624381080, 310598401, 607225278, 1426881987, 1925078388, 2162078206, 2614888103, 3248222580, 3835390401, 4022224774, 264347078, 604807628, 770255983, 1249150122, 1555081692, 1996064986, 2554220882, 2821834349, 2952996808, 3210313671, 3336571891, 3584528711, 113926993, 338241895, 666307205, 773529912, 1294757372, 1396182291, 1695183700, 1986661051, 2177026350, 2456956037, 2730485921, 2820302411, 3259730800, 3345764771, 3516065817, 3600352804, 4094571909, 275423344, 430227734, 506948616, 659060556, 883997877, 958139571, 1322822218, 1537002063, 1747873779, 1955562222, 2024104815, 2227730452, 2361852424, 2428436474, 2756734187, 3204031479, 3329325298]
theorem zf2 : (List.range 64).all (fun i => zs2.getD i 0 == ((K256 i).toNat : Int)) = true := by decide +kernel
theorem table2 {W : World} (h : laidMetH Tryd.prog Rows.sealExactRow.laid W) : Lib.TabIs Tryd.prog W "lethe/sha.constants" .u32 zs2 :=
  Lib.tabIs_of_head g2 gt2 Tryd.underlying107 Tryd.underlying93 ge2 gc2 (laidMet.tail (laidMet.tail (show laidMet Tryd.prog _ W from h)))
theorem g3 : Tryd.prog.globalNamed "lethe/sha.begin" = some 0 := by kernel_rfl
theorem gt3 : (Tryd.prog.globals[0]?).map (·.type) = some 94 := by kernel_rfl
theorem gc3 : Tryd.prog.cellsOf 94 = 8 := by kernel_rfl
theorem ge3 : Tryd.prog.cellsOf 93 = 1 := by kernel_rfl
def zs3 : List Int := [1779033703, 3144134277, 1013904242, 2773480762, 1359893119, 2600822924, 528734635, 1541459225]
theorem zf3 : (List.range 8).all (fun i => zs3.getD i 0 == ((H256 i).toNat : Int)) = true := by decide +kernel
theorem table3 {W : World} (h : laidMetH Tryd.prog Rows.sealExactRow.laid W) : Lib.TabIs Tryd.prog W "lethe/sha.begin" .u32 zs3 :=
  Lib.tabIs_of_head g3 gt3 Tryd.underlying94 Tryd.underlying93 ge3 gc3 (laidMet.tail (laidMet.tail (laidMet.tail (show laidMet Tryd.prog _ W from h))))
theorem lifts45 : D45.lifts := by
  intro L L' b x hs h
  obtain ⟨⟨_, h2⟩, ⟨_, h3⟩⟩ := h
  exact ⟨h2.lift hs, h3.lift hs⟩
theorem opens45 (w : World) : Opens Tryd.prog w reachBytes D45 (3 :: (List.replicate 32 5 ++ (24 :: (24 :: (3 :: ([] : List TypeId)))))) (fun x => x.2.2.1.length ≤ reachBytes ∧ x.2.2.2.1.length ≤ reachBytes) := by
  intro cells h_0
  obtain ⟨x0, cs0, rfl, h_1⟩ := h_0.int Tryd.underlying3
  obtain ⟨x1, cs1, rfl, h_2⟩ := h_1.part (n := 32) .u8 Tryd.underlying5
  obtain ⟨r2, a2, c2, x2, i2, cs2, hr2, hb2, rfl, h_3, hl2⟩ := h_2.bytes Tryd.underlying24
  obtain ⟨r3, a3, c3, x3, i3, cs3, hr3, hb3, rfl, h_4, hl3⟩ := h_3.bytes Tryd.underlying24
  obtain ⟨x4, cs4, rfl, h_5⟩ := h_4.int Tryd.underlying3
  cases h_5
  refine ⟨[r2, r3], ((a2, c2), (a3, c3)), (x0, x1, x2, x3, x4), ?_, ⟨hb2.lift (fun r hr => by simp only [List.mem_cons, List.not_mem_nil, or_false] at hr; subst hr; simp), hb3.lift (fun r hr => by simp only [List.mem_cons, List.not_mem_nil, or_false] at hr; subst hr; simp)⟩, ?_, ⟨hl2, hl3⟩⟩
  · exact fun r hr => by (simp only [List.mem_cons, List.not_mem_nil, or_false] at hr; rcases hr with rfl | rfl <;> assumption)
  · rfl
theorem leafs45 : leafs Tryd.prog 12 45 = some (3 :: (List.replicate 32 5 ++ (24 :: (24 :: (3 :: ([] : List TypeId)))))) := by kernel_rfl
theorem lsz45 : Tryd.prog.cellsOf 45 = ((3 :: (List.replicate 32 5 ++ (24 :: (24 :: (3 :: ([] : List TypeId))))))).length := by kernel_rfl
set_option maxRecDepth 100000 in
theorem contract (H : Type) (enc : TypeId × Value → H) (W : World) (base : Nat) (args : Array Value) (ds gs : List (DataW H)) (before : List MemPlace)
    (hval : ∀ (j : Nat) t v, Tryd.f6.params[j]? = some t → args[j]? = some v → Value.okWide Tryd.prog W .any base t v)
    (hW : DataW.Whole enc Tryd.prog Tryd.f6.params.toList Rows.sealExactSpec.vars false W args.toList ds gs before) (hL : laidMetH Tryd.prog Rows.sealExactRow.laid W)
    (hsz : (DataW.weightsEach Tryd.prog (Tryd.f6.params.toList ++ (OpenSpec.ofChange Rows.sealExactSpec).bare.plain.varTypes Tryd.prog) (ds ++ gs)).all (· ≤ reachBytes) = true) :
    Calls Tryd.prog 6 args W fun e W' => ∃ v, e = .returned v ∧ Rows.sealExactSpec.post enc Tryd.prog Tryd.f6 false true false false W args v W' := by
  have hW' := hW
  obtain ⟨p, q, hA0, hV, rfl, hfz, hnd⟩ := hW
  have hA : DataW.TrodAll enc Tryd.prog W 0 (fun _ => true) true Tryd.f6.params.toList args.toList ds p := hA0
  rw [Tryd.params6] at hA hval hsz
  obtain ⟨v0, vs0, d0, ds0, p0, q0, hargs0, rfl, rfl, h0, r0⟩ := trodAll_cons hA
  obtain ⟨rfl, rfl, rfl⟩ := trodAll_nil r0
  obtain rfl : args = #[v0] := by cases args; simp_all
  obtain ⟨rfl, rfl⟩ := trodVars_none hV
  have k0 := h0
  have lt0 : ∀ x ∈ p0, x.block < W.heap.size := by obtain ⟨m, hm⟩ := k0; exact DataW.trod_lt m _ _ _ hm
  obtain ⟨a0, len0, cap0, rfl⟩ := okWide_slice Tryd.underlying38 (hval 0 38 v0 rfl rfl)
  obtain ⟨pr0, of0, G0, hrow0⟩ : ∃ pr of G, LRows Tryd.prog W reachBytes (3 :: (List.replicate 32 5 ++ (24 :: (24 :: (3 :: ([] : List TypeId)))))) a0 len0 cap0 pr of G := by
    obtain ⟨fuel, hf⟩ := h0
    exact rows_open reachK Tryd.underlying38 leafs45 lsz45 (by decide) hf (fun n hn => by have := List.all_eq_true.1 hsz n (DataW.weights_mem_each (j := 0) (t := 38) rfl rfl n hn); simpa using this)
  clear hA0
  have hst := St.init W.heap.size W (Nat.le_refl _)
  have hro : roL [] := roL.nil
  obtain ⟨hst, hro⟩ := hst.tab hro (F := K64) (table0 hL) g0 64 (by decide +kernel) zf0
  obtain ⟨hst, hro⟩ := hst.tab hro (F := H64) (table1 hL) g1 8 (by decide +kernel) zf1
  obtain ⟨hst, hro⟩ := hst.tab hro (F := K256) (table2 hL) g2 64 (by decide +kernel) zf2
  obtain ⟨hst, hro⟩ := hst.tab hro (F := H256) (table3 hL) g3 8 (by decide +kernel) zf3
  obtain ⟨C0, X0, hst, hro, hV0, hQ0⟩ := hrow0.lv hst hro (opens45 W) lifts45 rfl
  have hR : lethelaw05_SealExact X0 true := sealExact_true X0 hQ0
  refine (lethelaw05_SealExact_ok (r := true) (iG0 := 0 + C0.length + 0) (by exact flget rfl C0) (iG1 := 1 + C0.length + 0) (by exact flget rfl C0) (iG2 := 2 + C0.length + 0) (by exact flget rfl C0) (iG3 := 3 + C0.length + 0) (by exact flget rfl C0) hV0.ofAt hR hst).mono fun e W' ⟨he, hs⟩ => ?_
  have bel := hs.below
  subst he
  exact ⟨_, rfl, _, _, _, [], _, [], hW', trodAll_mk1 (shut_bool Tryd.underlying4 _), (trodAll_cons_mk (Below.trod laidOut (by kernel_rfl) (of_decide_eq_true (by kernel_rfl)) k0 bel lt0) trodAll_mk0), rfl, bel.frame _, fun h => by cases h⟩
/-- A WORLD FOR THE WITNESS: the settled one, the tables as their initialisers lay them. -/
noncomputable def laidWorld (os : Os) : World := { World.holding Tryd.prog os ⟨#[], #[], []⟩ with heap := (((((World.holding Tryd.prog os ⟨#[], #[], []⟩).heap.modify 3 fun
      | .cells _ t frozen => .cells #[.int .u64 1116352408, .int .u64 1899447441, .int .u64 3049323471, .int .u64 3921009573, .int .u64 961987163, .int .u64 1508970993, .int .u64 2453635748, .int .u64 2870763221, .int .u64 3624381080, .int .u64 310598401, .int .u64 607225278, .int .u64 1426881987, .int .u64 1925078388, .int .u64 2162078206, .int .u64 2614888103, .int .u64 3248222580, .int .u64 3835390401, .int .u64 4022224774, .int .u64 264347078, .int .u64 604807628, .int .u64 770255983, .int .u64 1249150122, .int .u64 1555081692, .int .u64 1996064986, .int .u64 2554220882, .int .u64 2821834349, .int .u64 2952996808, .int .u64 3210313671, .int .u64 3336571891, .int .u64 3584528711, .int .u64 113926993, .int .u64 338241895, .int .u64 666307205, .int .u64 773529912, .int .u64 1294757372, .int .u64 1396182291, .int .u64 1695183700, .int .u64 1986661051, .int .u64 2177026350, .int .u64 2456956037, .int .u64 2730485921, .int .u64 2820302411, .int .u64 3259730800, .int .u64 3345764771, .int .u64 3516065817, .int .u64 3600352804, .int .u64 4094571909, .int .u64 275423344, .int .u64 430227734, .int .u64 506948616, .int .u64 659060556, .int .u64 883997877, .int .u64 958139571, .int .u64 1322822218, .int .u64 1537002063, .int .u64 1747873779, .int .u64 1955562222, .int .u64 2024104815, .int .u64 2227730452, .int .u64 2361852424, .int .u64 2428436474, .int .u64 2756734187, .int .u64 3204031479, .int .u64 3329325298] t frozen
      | o => o).modify 2 fun
      | .cells _ t frozen => .cells #[.int .u64 1779033703, .int .u64 3144134277, .int .u64 1013904242, .int .u64 2773480762, .int .u64 1359893119, .int .u64 2600822924, .int .u64 528734635, .int .u64 1541459225] t frozen
      | o => o).modify 1 fun
      | .cells _ t frozen => .cells #[.int .u32 1116352408, .int .u32 1899447441, .int .u32 3049323471, .int .u32 3921009573, .int .u32 961987163, .int .u32 1508970993, .int .u32 2453635748, .int .u32 2870763221, .int .u32 3624381080, .int .u32 310598401, .int .u32 607225278, .int .u32 1426881987, .int .u32 1925078388, .int .u32 2162078206, .int .u32 2614888103, .int .u32 3248222580, .int .u32 3835390401, .int .u32 4022224774, .int .u32 264347078, .int .u32 604807628, .int .u32 770255983, .int .u32 1249150122, .int .u32 1555081692, .int .u32 1996064986, .int .u32 2554220882, .int .u32 2821834349, .int .u32 2952996808, .int .u32 3210313671, .int .u32 3336571891, .int .u32 3584528711, .int .u32 113926993, .int .u32 338241895, .int .u32 666307205, .int .u32 773529912, .int .u32 1294757372, .int .u32 1396182291, .int .u32 1695183700, .int .u32 1986661051, .int .u32 2177026350, .int .u32 2456956037, .int .u32 2730485921, .int .u32 2820302411, .int .u32 3259730800, .int .u32 3345764771, .int .u32 3516065817, .int .u32 3600352804, .int .u32 4094571909, .int .u32 275423344, .int .u32 430227734, .int .u32 506948616, .int .u32 659060556, .int .u32 883997877, .int .u32 958139571, .int .u32 1322822218, .int .u32 1537002063, .int .u32 1747873779, .int .u32 1955562222, .int .u32 2024104815, .int .u32 2227730452, .int .u32 2361852424, .int .u32 2428436474, .int .u32 2756734187, .int .u32 3204031479, .int .u32 3329325298] t frozen
      | o => o).modify 0 fun
      | .cells _ t frozen => .cells #[.int .u32 1779033703, .int .u32 3144134277, .int .u32 1013904242, .int .u32 2773480762, .int .u32 1359893119, .int .u32 2600822924, .int .u32 528734635, .int .u32 1541459225] t frozen
      | o => o) }
theorem laid_met (os : Os) : laidMet Tryd.prog Rows.sealExactRow.laid ((laidWorld os).forCall (fun _ _ => 0) ⟨#[], #[.slice none 0 0], []⟩).memory :=
  laidMet_of_run' 8 (by kernel_rfl) (by kernel_rfl)
theorem reads (os : Os) {H : Type} (enc : TypeId × Value → H) : ∃ places, DataW.whole enc Tryd.prog ((laidWorld os).forCall (fun _ _ => 0) ⟨#[], #[.slice none 0 0], []⟩).memory Tryd.f6.params.toList Rows.sealExactSpec.vars false (#[.slice none 0 0] : Array Value).toList 8 = some ([.nil], [], places) :=
  ⟨[], by kernel_rfl⟩
set_option maxRecDepth 100000 in
theorem lifted (os : Os) (started : os.Started) (H : Type) (enc : TypeId × Value → H) (F : Stop.Interp) :
    ReturnsInHanded {} Tryd.checked os 6 .any ((OpenSpec.ofChange Rows.sealExactSpec).preRow enc Tryd.prog Tryd.f6 Rows.sealExactRow.domain false Rows.sealExactRow.laid) (((OpenSpec.ofChange Rows.sealExactSpec).at F).post enc Tryd.prog Tryd.f6 false true false false) := by
  obtain ⟨places, hx⟩ := reads os enc
  refine returnsInHanded_of_row (C := Tryd.checked) (s := (OpenSpec.ofChange Rows.sealExactSpec)) own started (by kernel_rfl) Tryd.func6
    (witness_row_at (enc := enc) (C := Tryd.checked) false (laidWorld os) #[.slice none 0 0] rfl (by kernel_rfl) (by kernel_rfl) (by kernel_rfl)
      (OpenSpec.preRow_of_cond 8 hx (by kernel_rfl) (fun k hk => by cases hk) (by kernel_rfl) (laid_met os))) ?_
  intro W base args ds gs before hval hW _ _ hsz hL _ _
  exact contract H enc W base args ds gs before hval hW hL hsz
theorem said : Rows.SealExactSaid :=
  OpenClaim.holds_of_cond 6 Tryd.f6 rfl rfl rfl rfl rfl rfl rfl ⟨rfl, rfl, rfl, rfl, rfl⟩ rfl rfl rfl rfl rfl (by kernel_rfl) Tryd.func6 (by kernel_rfl)
    (of_decide_eq_true (by kernel_rfl)) (by unfold Func.isWrapper; first | (rw [if_pos (by decide +kernel)]; kernel_rfl) | (rw [if_neg (by decide +kernel)]; exact ⟨rfl, rfl⟩))
    (fun os started H enc _ F => by rw [OpenClaim.pre_eq_preRow]; exact lifted os started H enc F)
theorem plain (f : FuncId) (fn : Func) (hf : Tryd.pinned.checked.prog.funcNamed "lethe/lethelaw05.SealExact" = some f) (hfn : Tryd.pinned.checked.prog.funcs[f]? = some fn) :
    false = Tryd.pinned.checked.prog.looks [] ∧ ∀ (j : Nat) t, fn.params[j]? = some t → Tryd.pinned.checked.prog.wantsStandIn t = false := by
  obtain rfl : f = 6 := Option.some.inj ((show Tryd.prog.funcNamed "lethe/lethelaw05.SealExact" = some 6 by kernel_rfl).symm.trans hf) |>.symm
  obtain rfl : fn = Tryd.f6 := (Option.some.inj (Tryd.func6.symm.trans hfn)).symm
  refine ⟨by kernel_rfl, fun j t ht => ?_⟩
  rw [Tryd.params6] at ht
  obtain rfl : t = 38 := by simpa using Array.mem_of_getElem? ht
  exact (show Tryd.prog.wantsStandIn 38 = false by kernel_rfl)
/-- THE CARD. -/
theorem card : Rows.SealExactCardSaid :=
  Claim7.holds_tied_plain_at .later [] _ _ _ _ said (fun _ h => by cases h) (by kernel_rfl) (fun _ h => by cases h) sealExact_row_tie rfl ⟨rfl, rfl⟩ (by kernel_rfl) rfl plain (by kernel_rfl)
end Go.Proofs.YthjkmhdgenmnoaaDoor.sealExact
namespace Go.Proofs.YthjkmhdgenmnoaaDoor
theorem sealExact_holds : Rows.SealExactCardSaid := sealExact.card
end Go.Proofs.YthjkmhdgenmnoaaDoor
