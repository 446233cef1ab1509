/-
  WALKS of the package's functions, printed by this session's own program (auto.py).
-/
import Derived.Test.YthjkmhdgenmnoaaProg
import Derived.Test.YthjkmhdgenmnoaaLx3
import Derived.Test.YthjkmhdgenmnoaaRAesKnown
import Derived.Test.YthjkmhdgenmnoaaWAes
import Derived.Test.YthjkmhdgenmnoaaWLaw04
namespace Go.Proofs.Ythjkmhdgenmnoaa
set_option linter.unusedSimpArgs false
set_option linter.unusedVariables false
set_option linter.unusedSectionVars false
open Go Go.LW
theorem FAesKnown.u5 : Try.prog.underlying 5 = some (.int .u8) := by kernel_rfl
theorem FAesKnown.some3 : (Try.prog.underlying 3).isSome = true := by kernel_rfl
theorem FAesKnown.sz5 : szT Try.prog 5 1 = true := by kernel_rfl
theorem FAesKnown.agg26 : aggT Try.prog 26 32 = true := by kernel_rfl
theorem FAesKnown.arr26 : arrB Try.prog 26 32 1 = true := by kernel_rfl
theorem FAesKnown.arr27 : arrB Try.prog 27 16 1 = true := by kernel_rfl
theorem FAesKnown.call11 : callB Try.prog 11 = true := by kernel_rfl
theorem FAesKnown.ptr30 : ptrB Try.prog 30 = true := by kernel_rfl
theorem FAesKnown.agg27 : aggT Try.prog 27 16 = true := by kernel_rfl
theorem FAesKnown.z27 : zeroIs Try.prog 27 [(16, fun _ => VU .u8 0#8)] := zeroIs_agg (by kernel_rfl)
theorem FAesKnown.sz27 : szT Try.prog 27 16 = true := by kernel_rfl
theorem FAesKnown.call15 : callB Try.prog 15 = true := by kernel_rfl
theorem FAesKnown.arrI27 : arrIB Try.prog 27 16 .u8 = true := by kernel_rfl
theorem FAesKnown.call13 : callB Try.prog 13 = true := by kernel_rfl
theorem FAesKnown.slu28 : Try.prog.underlying 28 = some (.slice 5) := by kernel_rfl
theorem FAesKnown.call14 : callB Try.prog 14 = true := by kernel_rfl
theorem FAesKnown.z26 : zeroIs Try.prog 26 [(32, fun _ => VU .u8 0#8)] := zeroIs_agg (by kernel_rfl)
theorem FAesKnown.zv5 : (Try.prog.info? 5).bind (·.zero) = some (VU .u8 0#8) := by kernel_rfl

set_option maxRecDepth 8000 in
set_option maxHeartbeats 1000000 in
theorem lethelaw04_AesKnown_ok {B : Nat} {w0 w : World} {L : List Rg}  {r : Bool} (hR : lethelaw04_AesKnown r) (HST : St B w0 (L) w) :
    Calls Try.prog 5 #[] w fun e w' => e = .returned (.bool r) ∧ St B w0 (L) w' := by
  refine W.enter 38 Try.func5 rfl rfl rfl ?_
  unfold lethelaw04_AesKnown at hR
  refine W.seq_k fun K1 hK1 => ?_
  refine W.regionT [(0, true)] (by kernel_rfl) ?_
  refine Plan.assign_bool rfl rfl ?_
  refine Plan.nil ?_
  refine hK1 _ _ ?_; clear hK1
  refine W.seq_k fun K2 hK2 => ?_
  refine W.regionT [(0, false)] (by kernel_rfl) ?_
  refine Plan.alloc HST rfl FAesKnown.z26 PIn.nil fun b3 w3 hb3 h3 => ?_
  simp only [rngs, Nat.zero_add, Nat.reduceAdd, List.cons_append, List.nil_append] at h3
  refine Plan.nil ?_
  refine hK2 _ _ ?_; clear hK2
  refine W.seq_k fun K4 hK4 => ?_
  refine W.seq_k fun K5 hK5 => ?_
  refine W.regionT [(0, true)] (by kernel_rfl) ?_
  refine Plan.assign_int rfl rfl ?_
  refine Plan.nil ?_
  refine hK5 _ _ ?_; clear hK5
  obtain ⟨m20, hI21, hR021⟩ := hR
  refine W.cutN (fun e w => ∃ y_m20 : Nat → BitVec 8, m20 = y_m20 ∧ EnvHas e [(1, .pointer (some ⟨b3, 0, none⟩))] ∧ St B w0 (⟨some b3, 0, 32, fun q => VU .u8 (y_m20 q), true⟩ :: L) w) ?_ ?_
  ·
    refine W.block ?_
    refine W.iter hI21 (fun (s21 : (Nat × (Nat → BitVec 8))) e w => EnvHas e [(1, .pointer (some ⟨b3, 0, none⟩)), (2, VN s21.1)] ∧ St B w0 (⟨some b3, 0, 32, fun q => VU .u8 (s21.2 q), true⟩ :: L) w) ⟨(EnvHas.cons rfl (EnvHas.cons rfl EnvHas.nil)), h3⟩ ?_
    rintro ⟨i_18, m19⟩ o21 hR hx21 ev22 wl22 ⟨he22, h22⟩
    obtain ⟨ev22, rfl⟩ := he22.open
    unfold lethelaw04_AesKnown_l0 at hR
    refine W.seq_k fun K23 hK23 => ?_
    refine W.seq_k fun K24 hK24 => ?_
    refine W.regionT [(0, true), (1, true)] (by kernel_rfl) ?_
    refine Plan.move_int rfl rfl ?_
    refine Plan.cmpP (a := (((i_18 : Nat) : Int) : Int)) (b := (32 : Int)) (p := i_18 < 32) rfl rfl rfl rfl icmp_ltN ?_
    refine Plan.nil ?_
    refine hK24 _ _ ?_; clear hK24
    by_cases hc25 : i_18 < 32
    ·
      replace hR := ifT hR hc25
      refine W.condT (congrArg Value.bool (decide_eq_true hc25)) ?_
      refine W.skip ?_
      refine hK23 _ _ ?_; clear hK23
      refine W.seq_k fun K26 hK26 => ?_
      refine W.block ?_
      refine W.regionT [(0, true), (1, true), (2, true), (3, true), (4, false)] (by kernel_rfl) ?_
      refine Plan.move_int rfl rfl ?_
      refine Plan.move_int rfl rfl ?_
      refine Plan.convNU .u8 (a := i_18) FAesKnown.u5 FAesKnown.some3 rfl rfl ?_
      refine Plan.idxArr1 (j := i_18) FAesKnown.arr26 rfl rfl rfl (by omega) ?_
      refine Plan.storeU (j := i_18) h22 0 rfl rfl rfl rfl (by omega) FAesKnown.sz5 rfl fun w27 h27 => ?_
      simp only [List.set_cons_zero, List.set_cons_succ] at h27
      refine Plan.nil ?_
      refine blockR_norm ?_
      refine hK26 _ _ ?_; clear hK26
      refine W.regionT [(0, true), (1, true), (2, true)] (by kernel_rfl) ?_
      refine Plan.move_int rfl rfl ?_
      refine Plan.addN (a := i_18) (b := 1) rfl rfl rfl (by omega) ?_
      refine Plan.assign_int rfl rfl ?_
      refine Plan.nil ?_
      exact iterR_norm ⟨_, hR, (EnvHas.cons rfl (EnvHas.cons rfl EnvHas.nil)), h27⟩
    ·
      replace hR := ifF hR hc25
      refine W.condF (congrArg Value.bool (decide_eq_false hc25)) ?_
      refine W.exit (thenR_exit (iterR_exit (blockR_here ?_)))
      exact ⟨m19, (hx21 _ hR).symm, (EnvHas.cons rfl EnvHas.nil), h22⟩
  ·
    rintro ev28 wl28 ⟨y_m20, hy28, he28, h28⟩
    obtain ⟨ev28, rfl⟩ := he28.open
    subst hy28
    replace hR := hR021; clear hR021 hI21
    refine hK4 _ _ ?_; clear hK4
    refine W.seq_k fun K29 hK29 => ?_
    refine W.regionT [(0, true), (1, false), (2, true)] (by kernel_rfl) ?_
    refine Plan.loadA1 h28 0 rfl rfl rfl FAesKnown.agg26 ?_
    rcases hR with ⟨hr30, hR⟩ | ⟨x_31, x_32, x_33, x_34, hr30, hR⟩
    ·
      refine Plan.call (vs := [AG [(32, fun q => VU .u8 (m20 q))]]) rfl FAesKnown.call11 rfl (lethelaw04_of_ok  hr30 h28) ?_
      rintro _ w35 ⟨rfl, h35⟩
      refine ⟨_, rfl, .inr ⟨rfl, ?_⟩⟩
      refine Plan.assign_ptr rfl rfl ?_
      refine Plan.nil ?_
      refine hK29 _ _ ?_; clear hK29
      refine W.seq_k fun K36 hK36 => ?_
      refine W.seq_k fun K37 hK37 => ?_
      refine W.regionT [(0, true), (1, true)] (by kernel_rfl) ?_
      refine Plan.move_ptr rfl rfl ?_
      refine Plan.eqNil (b := true) FAesKnown.ptr30 rfl rfl rfl rfl ?_
      refine Plan.nil ?_
      refine hK37 _ _ ?_; clear hK37
      refine W.condT rfl ?_
      refine W.seq_k fun K38 hK38 => ?_
      refine W.regionT [(0, true)] (by kernel_rfl) ?_
      refine Plan.assign_bool rfl rfl ?_
      refine Plan.nil ?_
      refine hK38 _ _ ?_; clear hK38
      refine W.ret (thenR_ret (finR_ret ?_))
      have h39 := St.pickT (C := [_]) h35 [] (by decide)
      simp only [pick, List.filterMap_cons, List.filterMap_nil, List.getElem?_cons_zero, List.getElem?_cons_succ, List.cons_append, List.nil_append] at h39
      subst r
      refine RetOk.mk (.tmp_bool rfl .nil) ?_
      exact ⟨rfl, h39⟩
    ·
      refine Plan.call (vs := [AG [(32, fun q => VU .u8 (m20 q))]]) rfl FAesKnown.call11 rfl (lethelaw04_of_ok  hr30 h28) ?_
      rintro _ w41 ⟨b0_40, rfl, h41⟩
      refine ⟨_, rfl, .inr ⟨rfl, ?_⟩⟩
      refine Plan.assign_ptr rfl rfl ?_
      refine Plan.nil ?_
      refine hK29 _ _ ?_; clear hK29
      refine W.seq_k fun K42 hK42 => ?_
      refine W.seq_k fun K43 hK43 => ?_
      refine W.regionT [(0, true), (1, true)] (by kernel_rfl) ?_
      refine Plan.move_ptr rfl rfl ?_
      refine Plan.eqNil (b := false) FAesKnown.ptr30 rfl rfl rfl rfl ?_
      refine Plan.nil ?_
      refine hK43 _ _ ?_; clear hK43
      refine W.condF rfl ?_
      refine W.skip ?_
      refine hK42 _ _ ?_; clear hK42
      refine W.seq_k fun K44 hK44 => ?_
      refine W.regionT [(0, true), (1, false), (2, false)] (by kernel_rfl) ?_
      refine Plan.buildArr (ps := [(16, fun q => VU .u8 ((lit [0#8, 17#8, 34#8, 51#8, 68#8, 85#8, 102#8, 119#8, 136#8, 153#8, 170#8, 187#8, 204#8, 221#8, 238#8, 255#8]) q))]) FAesKnown.arr27 FAesKnown.z27 rfl rfl (by kernel_rfl) ?_
      refine Plan.alloc h41 rfl FAesKnown.z27 PIn.nil fun b45 w45 hb45 h45 => ?_
      simp only [rngs, Nat.zero_add, Nat.reduceAdd, List.cons_append, List.nil_append] at h45
      refine Plan.storeA (f' := fun q => VU .u8 ((lit [0#8, 17#8, 34#8, 51#8, 68#8, 85#8, 102#8, 119#8, 136#8, 153#8, 170#8, 187#8, 204#8, 221#8, 238#8, 255#8]) q)) h45 0 rfl rfl rfl rfl (fun _ _ => rfl) FAesKnown.sz27 rfl fun w46 h46 => ?_
      simp only [List.set_cons_zero, List.set_cons_succ] at h46
      refine Plan.nil ?_
      refine hK44 _ _ ?_; clear hK44
      refine W.seq_k fun K47 hK47 => ?_
      refine W.seq_k fun K48 hK48 => ?_
      refine W.regionT [(0, true), (1, true), (2, false), (3, true), (4, true)] (by kernel_rfl) ?_
      refine Plan.move_ptr rfl rfl ?_
      refine Plan.loadA1 h46 0 rfl rfl rfl FAesKnown.agg27 ?_
      have h49 := St.pickT (C := [_, _, _, _, _, _]) h46 [1, 2, 3, 4, 0, 5] (by decide)
      simp only [pick, List.filterMap_cons, List.filterMap_nil, List.getElem?_cons_zero, List.getElem?_cons_succ, List.cons_append, List.nil_append] at h49
      obtain ⟨x_51, hr50, hR⟩ := hR
      refine Plan.call (vs := [.pointer (some ⟨b0_40, 0, none⟩), AG [(16, fun q => VU .u8 ((lit [0#8, 17#8, 34#8, 51#8, 68#8, 85#8, 102#8, 119#8, 136#8, 153#8, 170#8, 187#8, 204#8, 221#8, 238#8, 255#8]) q))]]) rfl FAesKnown.call15 rfl (aes_Cipher_Encrypt_ok  hr50 h49) ?_
      rintro _ w52 ⟨rfl, h52⟩
      refine ⟨_, rfl, .inr ⟨rfl, ?_⟩⟩
      refine Plan.buildArr (ps := [(16, fun q => VU .u8 ((lit [142#8, 162#8, 183#8, 202#8, 81#8, 103#8, 69#8, 191#8, 234#8, 252#8, 73#8, 144#8, 75#8, 73#8, 96#8, 137#8]) q))]) FAesKnown.arr27 FAesKnown.z27 rfl rfl (by kernel_rfl) ?_
      refine Plan.neArrV (b := (eqB 16 x_51 (lit [142#8, 162#8, 183#8, 202#8, 81#8, 103#8, 69#8, 191#8, 234#8, 252#8, 73#8, 144#8, 75#8, 73#8, 96#8, 137#8]))) FAesKnown.arrI27 rfl rfl rfl rfl ?_
      refine Plan.nil ?_
      refine hK48 _ _ ?_; clear hK48
      by_cases hc53 : (eqB 16 x_51 (lit [142#8, 162#8, 183#8, 202#8, 81#8, 103#8, 69#8, 191#8, 234#8, 252#8, 73#8, 144#8, 75#8, 73#8, 96#8, 137#8])) = true
      ·
        replace hR := ifT hR hc53
        refine W.condF (congrArg Value.bool (congrArg Bool.not hc53)) ?_
        refine W.skip ?_
        refine hK47 _ _ ?_; clear hK47
        refine W.seq_k fun K54 hK54 => ?_
        refine W.regionT [(0, true), (1, false), (2, true)] (by kernel_rfl) ?_
        refine Plan.buildArr (ps := [(32, fun q => VU .u8 ((lit [96#8, 61#8, 235#8, 16#8, 21#8, 202#8, 113#8, 190#8, 43#8, 115#8, 174#8, 240#8, 133#8, 125#8, 119#8, 129#8, 31#8, 53#8, 44#8, 7#8, 59#8, 97#8, 8#8, 215#8, 45#8, 152#8, 16#8, 163#8, 9#8, 20#8, 223#8, 244#8]) q))]) FAesKnown.arr26 FAesKnown.z26 rfl rfl (by kernel_rfl) ?_
        rcases hR with ⟨hr55, hR⟩ | ⟨x_56, x_57, x_58, x_59, hr55, hR⟩
        ·
          refine Plan.call (vs := [AG [(32, fun q => VU .u8 ((lit [96#8, 61#8, 235#8, 16#8, 21#8, 202#8, 113#8, 190#8, 43#8, 115#8, 174#8, 240#8, 133#8, 125#8, 119#8, 129#8, 31#8, 53#8, 44#8, 7#8, 59#8, 97#8, 8#8, 215#8, 45#8, 152#8, 16#8, 163#8, 9#8, 20#8, 223#8, 244#8]) q))]]) rfl FAesKnown.call11 rfl (lethelaw04_of_ok  hr55 h52) ?_
          rintro _ w60 ⟨rfl, h60⟩
          refine ⟨_, rfl, .inl ⟨PIn.keep PIn.nil h60, ?_⟩⟩
          refine Plan.assign_ptr rfl rfl ?_
          refine Plan.nil ?_
          refine hK54 _ _ ?_; clear hK54
          refine W.seq_k fun K61 hK61 => ?_
          refine W.seq_k fun K62 hK62 => ?_
          refine W.regionT [(0, true), (1, true)] (by kernel_rfl) ?_
          refine Plan.move_ptr rfl rfl ?_
          refine Plan.eqNil (b := true) FAesKnown.ptr30 rfl rfl rfl rfl ?_
          refine Plan.nil ?_
          refine hK62 _ _ ?_; clear hK62
          refine W.condT rfl ?_
          refine W.seq_k fun K63 hK63 => ?_
          refine W.regionT [(0, true)] (by kernel_rfl) ?_
          refine Plan.assign_bool rfl rfl ?_
          refine Plan.nil ?_
          refine hK63 _ _ ?_; clear hK63
          refine W.ret (thenR_ret (finR_ret ?_))
          have h64 := St.pickT (C := [_, _, _, _, _, _]) h60 [] (by decide)
          simp only [pick, List.filterMap_cons, List.filterMap_nil, List.getElem?_cons_zero, List.getElem?_cons_succ, List.cons_append, List.nil_append] at h64
          subst r
          refine RetOk.mk (.tmp_bool rfl .nil) ?_
          exact ⟨rfl, h64⟩
        ·
          refine Plan.call (vs := [AG [(32, fun q => VU .u8 ((lit [96#8, 61#8, 235#8, 16#8, 21#8, 202#8, 113#8, 190#8, 43#8, 115#8, 174#8, 240#8, 133#8, 125#8, 119#8, 129#8, 31#8, 53#8, 44#8, 7#8, 59#8, 97#8, 8#8, 215#8, 45#8, 152#8, 16#8, 163#8, 9#8, 20#8, 223#8, 244#8]) q))]]) rfl FAesKnown.call11 rfl (lethelaw04_of_ok  hr55 h52) ?_
          rintro _ w66 ⟨b0_65, rfl, h66⟩
          refine ⟨_, rfl, .inl ⟨PIn.keep PIn.nil h66, ?_⟩⟩
          refine Plan.assign_ptr rfl rfl ?_
          refine Plan.nil ?_
          refine hK54 _ _ ?_; clear hK54
          refine W.seq_k fun K67 hK67 => ?_
          refine W.seq_k fun K68 hK68 => ?_
          refine W.regionT [(0, true), (1, true)] (by kernel_rfl) ?_
          refine Plan.move_ptr rfl rfl ?_
          refine Plan.eqNil (b := false) FAesKnown.ptr30 rfl rfl rfl rfl ?_
          refine Plan.nil ?_
          refine hK68 _ _ ?_; clear hK68
          refine W.condF rfl ?_
          refine W.skip ?_
          refine hK67 _ _ ?_; clear hK67
          refine W.seq_k fun K69 hK69 => ?_
          refine W.regionT [(0, true), (1, false), (2, false)] (by kernel_rfl) ?_
          refine Plan.buildArr (ps := [(16, fun q => VU .u8 ((lit [240#8, 241#8, 242#8, 243#8, 244#8, 245#8, 246#8, 247#8, 248#8, 249#8, 250#8, 251#8, 252#8, 253#8, 254#8, 255#8]) q))]) FAesKnown.arr27 FAesKnown.z27 rfl rfl (by kernel_rfl) ?_
          refine Plan.alloc h66 rfl FAesKnown.z27 PIn.nil fun b70 w70 hb70 h70 => ?_
          simp only [rngs, Nat.zero_add, Nat.reduceAdd, List.cons_append, List.nil_append] at h70
          refine Plan.storeA (f' := fun q => VU .u8 ((lit [240#8, 241#8, 242#8, 243#8, 244#8, 245#8, 246#8, 247#8, 248#8, 249#8, 250#8, 251#8, 252#8, 253#8, 254#8, 255#8]) q)) h70 0 rfl rfl rfl rfl (fun _ _ => rfl) FAesKnown.sz27 rfl fun w71 h71 => ?_
          simp only [List.set_cons_zero, List.set_cons_succ] at h71
          refine Plan.nil ?_
          refine hK69 _ _ ?_; clear hK69
          refine W.seq_k fun K72 hK72 => ?_
          refine W.regionT [(0, false), (1, true)] (by kernel_rfl) ?_
          refine Plan.buildSlice h71 (ps := [(16, fun q => VU .u8 (lit ([107#8, 193#8, 190#8, 226#8, 46#8, 64#8, 159#8, 150#8, 233#8, 61#8, 126#8, 17#8, 115#8, 147#8, 23#8, 42#8] : List Byte) q))]) FAesKnown.slu28 FAesKnown.sz5 FAesKnown.zv5 (by decide) (by decide) rfl rfl (by kernel_rfl) (EffO.keep PIn.nil) fun b73 w73 hb73 h73 => ?_
          simp only [rngs, List.cons_append, List.nil_append] at h73
          have ho73 : Ow (some ⟨b73, 0, none⟩) (some b73) ([107#8, 193#8, 190#8, 226#8, 46#8, 64#8, 159#8, 150#8, 233#8, 61#8, 126#8, 17#8, 115#8, 147#8, 23#8, 42#8] : List Byte).length 16 (lit ([107#8, 193#8, 190#8, 226#8, 46#8, 64#8, 159#8, 150#8, 233#8, 61#8, 126#8, 17#8, 115#8, 147#8, 23#8, 42#8] : List Byte)) ([107#8, 193#8, 190#8, 226#8, 46#8, 64#8, 159#8, 150#8, 233#8, 61#8, 126#8, 17#8, 115#8, 147#8, 23#8, 42#8] : List Byte) := ⟨.inr ⟨b73, rfl, rfl⟩, Nat.le_refl _, rfl, fun q _ => rfl⟩
          refine Plan.assign_slice rfl rfl ?_
          refine Plan.nil ?_
          refine hK72 _ _ ?_; clear hK72
          refine W.seq_k fun K74 hK74 => ?_
          refine W.regionT [(0, true), (1, true), (2, true), (3, false), (4, false), (5, false), (6, true)] (by kernel_rfl) ?_
          refine Plan.move_ptr rfl rfl ?_
          refine Plan.loadA1 h73 1 rfl rfl rfl FAesKnown.agg27 ?_
          refine Plan.move_slice rfl rfl ?_
          have h75 := St.pickT (C := [_, _, _, _, _, _, _, _, _, _, _, _]) h73 [2, 3, 4, 5, 0, 1, 6, 7, 8, 9, 10, 11] (by decide)
          simp only [pick, List.filterMap_cons, List.filterMap_nil, List.getElem?_cons_zero, List.getElem?_cons_succ, List.cons_append, List.nil_append] at h75
          obtain ⟨x_77, hr76, hR⟩ := hR
          refine Plan.call (vs := [.pointer (some ⟨b0_65, 0, none⟩), AG [(16, fun q => VU .u8 ((lit [240#8, 241#8, 242#8, 243#8, 244#8, 245#8, 246#8, 247#8, 248#8, 249#8, 250#8, 251#8, 252#8, 253#8, 254#8, 255#8]) q))], .slice (some ⟨b73, 0, none⟩) (([107#8, 193#8, 190#8, 226#8, 46#8, 64#8, 159#8, 150#8, 233#8, 61#8, 126#8, 17#8, 115#8, 147#8, 23#8, 42#8] : List Byte).length) 16]) rfl FAesKnown.call13 rfl (aes_Cipher_Stream_ok (ho73.bx 0 rfl) hr76 h75) ?_
          rintro _ w83 ⟨ay0_78, py0_79, ny0_80, cy0_81, Fy0_82, rfl, h83, hf83_0⟩
          obtain rfl := hf83_0.hl
          refine ⟨_, rfl, .inr ⟨rfl, ?_⟩⟩
          refine Plan.buildSlice h83 (ps := [(16, fun q => VU .u8 (lit ([96#8, 30#8, 195#8, 19#8, 119#8, 87#8, 137#8, 165#8, 183#8, 167#8, 245#8, 4#8, 187#8, 243#8, 210#8, 40#8] : List Byte) q))]) FAesKnown.slu28 FAesKnown.sz5 FAesKnown.zv5 (by decide) (by decide) rfl rfl (by kernel_rfl) (EffO.keep PIn.nil) fun b84 w84 hb84 h84 => ?_
          simp only [rngs, List.cons_append, List.nil_append] at h84
          have ho84 : Ow (some ⟨b84, 0, none⟩) (some b84) ([96#8, 30#8, 195#8, 19#8, 119#8, 87#8, 137#8, 165#8, 183#8, 167#8, 245#8, 4#8, 187#8, 243#8, 210#8, 40#8] : List Byte).length 16 (lit ([96#8, 30#8, 195#8, 19#8, 119#8, 87#8, 137#8, 165#8, 183#8, 167#8, 245#8, 4#8, 187#8, 243#8, 210#8, 40#8] : List Byte)) ([96#8, 30#8, 195#8, 19#8, 119#8, 87#8, 137#8, 165#8, 183#8, 167#8, 245#8, 4#8, 187#8, 243#8, 210#8, 40#8] : List Byte) := ⟨.inr ⟨b84, rfl, rfl⟩, Nat.le_refl _, rfl, fun q _ => rfl⟩
          obtain ⟨x_86, hr85, hR⟩ := hR
          refine Plan.call (vs := [.slice ay0_78 x_77.length cy0_81, .slice (some ⟨b84, 0, none⟩) (([96#8, 30#8, 195#8, 19#8, 119#8, 87#8, 137#8, 165#8, 183#8, 167#8, 245#8, 4#8, 187#8, 243#8, 210#8, 40#8] : List Byte).length) 16]) rfl FAesKnown.call14 rfl (lethelaw04_Eq_ok (hf83_0.bx 1 rfl) (ho84.bx 0 rfl) hr85 h84) ?_
          rintro _ w87 ⟨rfl, h87⟩
          refine ⟨_, rfl, .inl ⟨PIn.keep PIn.nil h87, ?_⟩⟩
          refine Plan.assign_bool rfl rfl ?_
          refine Plan.nil ?_
          refine hK74 _ _ ?_; clear hK74
          refine W.ret (finR_ret ?_)
          have h88 := St.pickT (C := [_, _, _, _, _, _, _, _, _, _, _, _, _, _]) h87 [] (by decide)
          simp only [pick, List.filterMap_cons, List.filterMap_nil, List.getElem?_cons_zero, List.getElem?_cons_succ, List.cons_append, List.nil_append] at h88
          subst r
          refine RetOk.mk (.tmp_bool rfl .nil) ?_
          exact ⟨rfl, h88⟩
      ·
        replace hR := ifF hR hc53
        refine W.condT (congrArg Value.bool (congrArg Bool.not (Bool.eq_false_iff.2 hc53))) ?_
        refine W.seq_k fun K89 hK89 => ?_
        refine W.regionT [(0, true)] (by kernel_rfl) ?_
        refine Plan.assign_bool rfl rfl ?_
        refine Plan.nil ?_
        refine hK89 _ _ ?_; clear hK89
        refine W.ret (thenR_ret (finR_ret ?_))
        have h90 := St.pickT (C := [_, _, _, _, _, _]) h52 [] (by decide)
        simp only [pick, List.filterMap_cons, List.filterMap_nil, List.getElem?_cons_zero, List.getElem?_cons_succ, List.cons_append, List.nil_append] at h90
        subst r
        refine RetOk.mk (.tmp_bool rfl .nil) ?_
        exact ⟨rfl, h90⟩

end Go.Proofs.Ythjkmhdgenmnoaa
