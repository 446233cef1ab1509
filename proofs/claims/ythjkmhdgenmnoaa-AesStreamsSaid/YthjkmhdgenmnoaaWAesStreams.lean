/-
  WALKS of the package's functions, printed by this session's own program (auto.py).
-/
import Derived.Test.YthjkmhdgenmnoaaProg
import Derived.Test.YthjkmhdgenmnoaaLx3
import Derived.Test.YthjkmhdgenmnoaaRAesStreams
import Derived.Test.YthjkmhdgenmnoaaWAes
import Derived.Test.YthjkmhdgenmnoaaWLaw04
namespace Go.Proofs.Ythjkmhdgenmnoaa
set_option linter.unusedSimpArgs false
set_option linter.unusedVariables false
set_option linter.unusedSectionVars false
open Go Go.LW
theorem FAesStreams.some3 : (Try.prog.underlying 3).isSome = true := by kernel_rfl
theorem FAesStreams.mixed : Try.prog.follows .mixedOrders = true := by kernel_rfl
theorem FAesStreams.sc5 : scalarT Try.prog 5 = true := by kernel_rfl
theorem FAesStreams.agg26 : aggT Try.prog 26 32 = true := by kernel_rfl
theorem FAesStreams.isl28 : ∃ el, Try.prog.underlying 28 = some (.slice el) := ⟨5, by kernel_rfl⟩
theorem FAesStreams.sl28 : slB Try.prog 28 1 = true := by kernel_rfl
theorem FAesStreams.arr27 : arrB Try.prog 27 16 1 = true := by kernel_rfl
theorem FAesStreams.call11 : callB Try.prog 11 = true := by kernel_rfl
theorem FAesStreams.ptr30 : ptrB Try.prog 30 = true := by kernel_rfl
theorem FAesStreams.agg27 : aggT Try.prog 27 16 = true := by kernel_rfl
theorem FAesStreams.z27 : zeroIs Try.prog 27 [(16, fun _ => VU .u8 0#8)] := zeroIs_agg (by kernel_rfl)
theorem FAesStreams.sz27 : szT Try.prog 27 16 = true := by kernel_rfl
theorem FAesStreams.call15 : callB Try.prog 15 = true := by kernel_rfl
theorem FAesStreams.arrI27 : arrIB Try.prog 27 16 .u8 = true := by kernel_rfl
theorem FAesStreams.el28 : elD Try.prog 28 = some (1, 1, some (VU .u8 0#8)) := by kernel_rfl
theorem FAesStreams.call12 : callB Try.prog 12 = true := by kernel_rfl
theorem FAesStreams.u29 : Try.prog.underlying 29 = some (.int .u64) := by kernel_rfl
theorem FAesStreams.call16 : callB Try.prog 16 = true := by kernel_rfl
theorem FAesStreams.call13 : callB Try.prog 13 = true := by kernel_rfl
theorem FAesStreams.call14 : callB Try.prog 14 = true := by kernel_rfl
theorem FAesStreams.row27 : rowB Try.prog 27 = true := by kernel_rfl

set_option maxRecDepth 8000 in
set_option maxHeartbeats 1000000 in
theorem lethelaw04_AesStreams_ok {B : Nat} {w0 w : World} {L : List Rg} {key1 : Nat → BitVec 8} {first2 : Nat → BitVec 8} {a3 : List Byte} {aa3 : Option Addr} {na3 ca3 ia3 : Nat} (ha3 : Bx L ia3 aa3 na3 ca3 a3) {b4 : List Byte} {ab4 : Option Addr} {nb4 cb4 ib4 : Nat} (hb4 : Bx L ib4 ab4 nb4 cb4 b4) {n_5 : BitVec 64} {r : Bool} (hR : lethelaw04_AesStreams key1 first2 a3 b4 n_5 r) (HST : St B w0 (L) w) :
    Calls Try.prog 4 #[AG [(32, fun q => VU .u8 (key1 q))], AG [(16, fun q => VU .u8 (first2 q))], .slice aa3 na3 ca3, .slice ab4 nb4 cb4, VU .u64 n_5] w fun e w' => e = .returned (.bool r) ∧ St B w0 (L) w' := by
  refine W.enter 129 Try.func4 rfl rfl rfl ?_
  unfold lethelaw04_AesStreams at hR
  have ea3 := ha3.hl; subst ea3
  have eb4 := hb4.hl; subst eb4
  refine W.seq_k fun K6 hK6 => ?_
  refine W.regionT [(0, false), (1, false), (2, true)] (by kernel_rfl) ?_
  refine Plan.boxA HST rfl rfl PIn.nil fun b7 w7 hb7 h7 => ?_
  simp only [rngs, Nat.zero_add, Nat.reduceAdd, List.cons_append, List.nil_append] at h7
  refine Plan.boxA h7 rfl rfl PIn.nil fun b8 w8 hb8 h8 => ?_
  simp only [rngs, Nat.zero_add, Nat.reduceAdd, List.cons_append, List.nil_append] at h8
  refine Plan.assign_bool rfl rfl ?_
  refine Plan.nil ?_
  refine hK6 _ _ ?_; clear hK6
  refine W.seq_k fun K9 hK9 => ?_
  refine W.regionT [(0, true), (1, false), (2, true)] (by kernel_rfl) ?_
  refine Plan.loadA1 h8 1 rfl rfl rfl FAesStreams.agg26 ?_
  rcases hR with ⟨hr10, hR⟩ | ⟨x_11, x_12, x_13, x_14, hr10, hR⟩
  ·
    refine Plan.call (vs := [AG [(32, fun q => VU .u8 (key1 q))]]) rfl FAesStreams.call11 rfl (lethelaw04_of_ok  hr10 h8) ?_
    rintro _ w15 ⟨rfl, h15⟩
    refine ⟨_, rfl, .inr ⟨rfl, ?_⟩⟩
    refine Plan.assign_ptr rfl rfl ?_
    refine Plan.nil ?_
    refine hK9 _ _ ?_; clear hK9
    refine W.seq_k fun K16 hK16 => ?_
    refine W.regionT [(0, true), (1, false), (2, true), (3, false), (4, true), (5, true)] (by kernel_rfl) ?_
    refine Plan.move_slice rfl rfl ?_
    obtain ⟨x_18, hr17, hR⟩ := hR
    refine Plan.call (vs := [.slice aa3 a3.length ca3, VN 200]) rfl FAesStreams.call12 rfl (lethelaw04_short_ok (ha3.app [_, _]) hr17 h15) ?_
    rintro _ w22 ⟨ay0_19, ny0_20, cy0_21, rfl, h22, hf22_0⟩
    obtain rfl := hf22_0.hl
    refine ⟨_, rfl, .inl ⟨PIn.keep PIn.nil h22, ?_⟩⟩
    refine Plan.move_slice rfl rfl ?_
    obtain ⟨x_24, hr23, hR⟩ := hR
    refine Plan.call (vs := [.slice ab4 b4.length cb4, VN 200]) rfl FAesStreams.call12 rfl (lethelaw04_short_ok (hb4.app [_, _]) hr23 h22) ?_
    rintro _ w28 ⟨ay0_25, ny0_26, cy0_27, rfl, h28, hf28_0⟩
    obtain rfl := hf28_0.hl
    refine ⟨_, rfl, .inl ⟨PIn.keep PIn.nil h28, ?_⟩⟩
    refine Plan.assign_slice rfl rfl ?_
    refine Plan.assign_slice rfl rfl ?_
    refine Plan.nil ?_
    refine hK16 _ _ ?_; clear hK16
    refine W.seq_k fun K29 hK29 => ?_
    refine W.seq_k fun K30 hK30 => ?_
    refine W.regionT [(0, true), (1, true)] (by kernel_rfl) ?_
    refine Plan.move_ptr rfl rfl ?_
    refine Plan.eqNil (b := true) FAesStreams.ptr30 rfl rfl rfl rfl ?_
    refine Plan.nil ?_
    refine hK30 _ _ ?_; clear hK30
    refine W.condT rfl ?_
    refine W.seq_k fun K31 hK31 => ?_
    refine W.regionT [(0, true)] (by kernel_rfl) ?_
    refine Plan.assign_bool rfl rfl ?_
    refine Plan.nil ?_
    refine hK31 _ _ ?_; clear hK31
    refine W.ret (thenR_ret (finR_ret ?_))
    have h32 := St.pickT (C := [_, _]) h28 [] (by decide)
    simp only [pick, List.filterMap_cons, List.filterMap_nil, List.getElem?_cons_zero, List.getElem?_cons_succ, List.cons_append, List.nil_append] at h32
    subst r
    refine RetOk.mk (.tmp_bool rfl .nil) ?_
    exact ⟨rfl, h32⟩
  ·
    refine Plan.call (vs := [AG [(32, fun q => VU .u8 (key1 q))]]) rfl FAesStreams.call11 rfl (lethelaw04_of_ok  hr10 h8) ?_
    rintro _ w34 ⟨b0_33, rfl, h34⟩
    refine ⟨_, rfl, .inr ⟨rfl, ?_⟩⟩
    refine Plan.assign_ptr rfl rfl ?_
    refine Plan.nil ?_
    refine hK9 _ _ ?_; clear hK9
    refine W.seq_k fun K35 hK35 => ?_
    refine W.regionT [(0, true), (1, false), (2, true), (3, false), (4, true), (5, true)] (by kernel_rfl) ?_
    refine Plan.move_slice rfl rfl ?_
    obtain ⟨x_37, hr36, hR⟩ := hR
    refine Plan.call (vs := [.slice aa3 a3.length ca3, VN 200]) rfl FAesStreams.call12 rfl (lethelaw04_short_ok (ha3.app [_, _, _, _, _, _]) hr36 h34) ?_
    rintro _ w41 ⟨ay0_38, ny0_39, cy0_40, rfl, h41, hf41_0⟩
    obtain rfl := hf41_0.hl
    refine ⟨_, rfl, .inl ⟨PIn.keep PIn.nil h41, ?_⟩⟩
    refine Plan.move_slice rfl rfl ?_
    obtain ⟨x_43, hr42, hR⟩ := hR
    refine Plan.call (vs := [.slice ab4 b4.length cb4, VN 200]) rfl FAesStreams.call12 rfl (lethelaw04_short_ok (hb4.app [_, _, _, _, _, _]) hr42 h41) ?_
    rintro _ w47 ⟨ay0_44, ny0_45, cy0_46, rfl, h47, hf47_0⟩
    obtain rfl := hf47_0.hl
    refine ⟨_, rfl, .inl ⟨PIn.keep PIn.nil h47, ?_⟩⟩
    refine Plan.assign_slice rfl rfl ?_
    refine Plan.assign_slice rfl rfl ?_
    refine Plan.nil ?_
    refine hK35 _ _ ?_; clear hK35
    refine W.seq_k fun K48 hK48 => ?_
    refine W.seq_k fun K49 hK49 => ?_
    refine W.regionT [(0, true), (1, true)] (by kernel_rfl) ?_
    refine Plan.move_ptr rfl rfl ?_
    refine Plan.eqNil (b := false) FAesStreams.ptr30 rfl rfl rfl rfl ?_
    refine Plan.nil ?_
    refine hK49 _ _ ?_; clear hK49
    refine W.condF rfl ?_
    refine W.skip ?_
    refine hK48 _ _ ?_; clear hK48
    refine W.seq_k fun K50 hK50 => ?_
    refine W.regionT [(0, true), (1, true), (2, true), (3, false), (4, true)] (by kernel_rfl) ?_
    refine Plan.move_ptr rfl rfl ?_
    refine Plan.loadA1 h47 4 rfl rfl rfl FAesStreams.agg27 ?_
    refine Plan.move_slice rfl rfl ?_
    obtain ⟨x_52, hr51, hR⟩ := hR
    refine Plan.call (vs := [.pointer (some ⟨b0_33, 0, none⟩), AG [(16, fun q => VU .u8 (first2 q))], .slice ay0_38 x_37.length cy0_40]) rfl FAesStreams.call13 rfl (aes_Cipher_Stream_ok ((Bx.unapp (D := [_, _, _, _, _, _]) hf41_0).app [_, _]) hr51 h47) ?_
    rintro _ w58 ⟨ay0_53, py0_54, ny0_55, cy0_56, Fy0_57, rfl, h58, hf58_0⟩
    obtain rfl := hf58_0.hl
    refine ⟨_, rfl, .inr ⟨rfl, ?_⟩⟩
    refine Plan.assign_slice rfl rfl ?_
    refine Plan.nil ?_
    refine hK50 _ _ ?_; clear hK50
    refine W.seq_k fun K59 hK59 => ?_
    refine W.seq_k fun K77 hK77 => ?_
    refine W.regionT [(0, true), (1, true), (2, true), (3, true), (4, true), (5, true), (6, true), (7, true), (8, true), (9, false), (10, true), (11, false), (12, true), (13, true)] (by kernel_rfl) ?_
    refine Plan.move_slice rfl rfl ?_
    refine Plan.len FAesStreams.isl28 rfl rfl ?_
    refine Plan.move_slice rfl rfl ?_
    refine Plan.len FAesStreams.isl28 rfl rfl ?_
    by_cases hc78 : x_52.length ≠ x_37.length
    ·
      replace hR := ifT hR hc78
      refine Plan.cmpV (a := (((x_52.length : Nat) : Int) : Int)) (b := (((x_37.length : Nat) : Int) : Int)) (p := x_52.length ≠ x_37.length) (v := true) rfl rfl rfl rfl icmp_neN (decide_eq_true hc78) ?_
      refine Plan.move_bool rfl rfl ?_
      refine Plan.passed rfl ?_
      refine Plan.passed rfl ?_
      refine Plan.passed rfl ?_
      refine Plan.passed rfl ?_
      refine Plan.passed rfl ?_
      refine Plan.passed rfl ?_
      refine Plan.passed rfl ?_
      refine Plan.pickTb rfl rfl rfl ?_
      refine Plan.nil ?_
      refine hK77 _ _ ?_; clear hK77
      refine W.condT rfl ?_
      refine W.seq_k fun K79 hK79 => ?_
      refine W.regionT [(0, true)] (by kernel_rfl) ?_
      refine Plan.assign_bool rfl rfl ?_
      refine Plan.nil ?_
      refine hK79 _ _ ?_; clear hK79
      refine W.ret (thenR_ret (finR_ret ?_))
      have h80 := St.pickT (C := [_, _, _, _, _, _, _]) h58 [] (by decide)
      simp only [pick, List.filterMap_cons, List.filterMap_nil, List.getElem?_cons_zero, List.getElem?_cons_succ, List.cons_append, List.nil_append] at h80
      subst r
      refine RetOk.mk (.tmp_bool rfl .nil) ?_
      exact ⟨rfl, h80⟩
    ·
      replace hR := ifF hR hc78
      refine Plan.cmpV (a := (((x_52.length : Nat) : Int) : Int)) (b := (((x_37.length : Nat) : Int) : Int)) (p := x_52.length ≠ x_37.length) (v := false) rfl rfl rfl rfl icmp_neN (decide_eq_false hc78) ?_
      refine Plan.move_bool rfl rfl ?_
      refine Plan.move_ptr rfl rfl ?_
      refine Plan.loadA1 h58 5 rfl rfl rfl FAesStreams.agg27 ?_
      refine Plan.move_slice rfl rfl ?_
      have h81 := St.pickT (C := [_, _, _, _, _, _, _]) h58 [1, 2, 3, 4, 0, 5, 6] (by decide)
      simp only [pick, List.filterMap_cons, List.filterMap_nil, List.getElem?_cons_zero, List.getElem?_cons_succ, List.cons_append, List.nil_append] at h81
      obtain ⟨x_83, hr82, hR⟩ := hR
      refine Plan.call (vs := [.pointer (some ⟨b0_33, 0, none⟩), AG [(16, fun q => VU .u8 (first2 q))], .slice ay0_53 x_52.length cy0_56]) rfl FAesStreams.call13 rfl (aes_Cipher_Stream_ok (hf58_0.bx 0 rfl) hr82 h81) ?_
      rintro _ w89 ⟨ay0_84, py0_85, ny0_86, cy0_87, Fy0_88, rfl, h89, hf89_0⟩
      obtain rfl := hf89_0.hl
      refine ⟨_, rfl, .inr ⟨rfl, ?_⟩⟩
      refine Plan.move_slice rfl rfl ?_
      obtain ⟨x_91, hr90, hR⟩ := hR
      refine Plan.call (vs := [.slice ay0_84 x_83.length cy0_87, .slice ay0_38 x_37.length cy0_40]) rfl FAesStreams.call14 rfl (lethelaw04_Eq_ok (hf89_0.bx 0 rfl) ((Bx.unapp (D := [_, _, _, _, _, _]) hf41_0).app [_, _, _, _, _, _, _, _]) hr90 h89) ?_
      rintro _ w92 ⟨rfl, h92⟩
      refine ⟨_, rfl, .inl ⟨PIn.keep PIn.nil h92, ?_⟩⟩
      refine Plan.not rfl rfl ?_
      refine Plan.pickFb rfl rfl rfl ?_
      refine Plan.nil ?_
      refine hK77 _ _ ?_; clear hK77
      by_cases hc93 : x_91 = true
      ·
        replace hR := ifT hR hc93
        refine W.condF (congrArg Value.bool (congrArg Bool.not hc93)) ?_
        refine W.skip ?_
        refine hK59 _ _ ?_; clear hK59
        refine W.seq_k fun K94 hK94 => ?_
        refine W.seq_k fun K95 hK95 => ?_
        refine W.regionT [(0, true)] (by kernel_rfl) ?_
        refine Plan.assign_int rfl rfl ?_
        refine Plan.nil ?_
        refine hK95 _ _ ?_; clear hK95
        obtain ⟨x148, hI148, hR0148⟩ := hR
        refine W.cutN (fun e w => ∃ y_s147 : List Byte, x148 = some y_s147 ∧ ∃ as147 : Option Addr, ∃ ps147 : Option Nat, ∃ cs147 : Nat, ∃ Fs147 : Nat → Byte, EnvHas e [(2, .slice ay0_38 x_37.length cy0_40), (3, .slice ay0_44 x_43.length cy0_46), (4, VU .u64 n_5), (6, .pointer (some ⟨b8, 0, none⟩)), (11, .pointer (some ⟨b0_33, 0, none⟩)), (12, .slice as147 x_52.length cs147)] ∧ St B w0 (⟨ps147, 0, cs147, fun q => VU .u8 (Fs147 q), true⟩ :: ⟨some b0_33, 0, 240, fun q => VU .u8 (x_11 q), true⟩ :: ⟨some b0_33, 240, 256, fun q => VU .u8 (x_12 q), true⟩ :: ⟨some b0_33, 496, 256, fun q => VU .u8 (x_13 q), true⟩ :: ⟨some b0_33, 752, 256, fun q => VU .u8 (x_14 q), true⟩ :: ⟨some b8, 0, 16, fun q => VU .u8 (first2 q), true⟩ :: L) w ∧ Ow as147 ps147 x_52.length cs147 Fs147 y_s147) ?_ ?_
        ·
          refine W.block ?_
          have h149 := St.pickT (C := [_, _, _, _, _, _, _, _]) h92 [5, 1, 2, 3, 4, 6] (by decide)
          simp only [pick, List.filterMap_cons, List.filterMap_nil, List.getElem?_cons_zero, List.getElem?_cons_succ, List.cons_append, List.nil_append] at h149
          refine W.iter hI148 (fun (s148 : ((List Byte) × Nat)) e w => ∃ as145 : Option Addr, ∃ ps145 : Option Nat, ∃ cs145 : Nat, ∃ Fs145 : Nat → Byte, EnvHas e [(2, .slice ay0_38 x_37.length cy0_40), (3, .slice ay0_44 x_43.length cy0_46), (4, VU .u64 n_5), (6, .pointer (some ⟨b8, 0, none⟩)), (11, .pointer (some ⟨b0_33, 0, none⟩)), (12, .slice as145 x_52.length cs145), (13, VN s148.2)] ∧ St B w0 (⟨ps145, 0, cs145, fun q => VU .u8 (Fs145 q), true⟩ :: ⟨some b0_33, 0, 240, fun q => VU .u8 (x_11 q), true⟩ :: ⟨some b0_33, 240, 256, fun q => VU .u8 (x_12 q), true⟩ :: ⟨some b0_33, 496, 256, fun q => VU .u8 (x_13 q), true⟩ :: ⟨some b0_33, 752, 256, fun q => VU .u8 (x_14 q), true⟩ :: ⟨some b8, 0, 16, fun q => VU .u8 (first2 q), true⟩ :: L) w ∧ Ow as145 ps145 x_52.length cs145 Fs145 s148.1) ⟨ay0_53, py0_54, cy0_56, Fy0_57, (EnvHas.cons rfl (EnvHas.cons rfl (EnvHas.cons rfl (EnvHas.cons rfl (EnvHas.cons rfl (EnvHas.cons rfl (EnvHas.cons rfl EnvHas.nil))))))), h149, hf58_0⟩ ?_
          rintro ⟨s145, i_146⟩ o148 hR hx148 ev150 wl150 ⟨as145, ps145, cs145, Fs145, he150, h150, hs145⟩
          obtain ⟨ev150, rfl⟩ := he150.open
          unfold lethelaw04_AesStreams_l0 at hR
          refine W.seq_k fun K151 hK151 => ?_
          refine W.seq_k fun K152 hK152 => ?_
          refine W.regionT [(0, true), (1, true), (2, true), (3, true)] (by kernel_rfl) ?_
          refine Plan.move_int rfl rfl ?_
          refine Plan.move_slice rfl rfl ?_
          refine Plan.len FAesStreams.isl28 rfl rfl ?_
          refine Plan.cmpP (a := (((i_146 : Nat) : Int) : Int)) (b := (((x_37.length : Nat) : Int) : Int)) (p := i_146 < x_37.length) rfl rfl rfl rfl icmp_ltN ?_
          refine Plan.nil ?_
          refine hK152 _ _ ?_; clear hK152
          by_cases hc153 : i_146 < x_37.length
          ·
            replace hR := ifT hR hc153
            refine W.condT (congrArg Value.bool (decide_eq_true hc153)) ?_
            refine W.skip ?_
            refine hK151 _ _ ?_; clear hK151
            refine W.seq_k fun K154 hK154 => ?_
            refine W.block ?_
            refine W.seq_k fun K155 hK155 => ?_
            refine W.regionT [(0, true), (1, true), (2, true), (3, true), (4, true), (5, false), (6, false), (7, false), (8, false)] (by kernel_rfl) ?_
            refine Plan.move_ptr rfl rfl ?_
            refine Plan.loadA1 h150 5 rfl rfl rfl FAesStreams.agg27 ?_
            refine Plan.move_int rfl rfl ?_
            obtain ⟨hc156, hR⟩ := hR
            refine Plan.quoN (a := i_146) (b := 16) rfl rfl rfl (by omega) ?_
            refine Plan.convNU .u64 (a := (i_146 / 16)) FAesStreams.u29 FAesStreams.some3 rfl rfl ?_
            obtain ⟨x_158, hr157, hR⟩ := hR
            refine Plan.call (vs := [AG [(16, fun q => VU .u8 (first2 q))], VU .u64 (BitVec.ofNat 64 (i_146 / 16))]) rfl FAesStreams.call16 rfl (aes_Next_ok  hr157 h150) ?_
            rintro _ w159 ⟨rfl, h159⟩
            refine ⟨_, rfl, .inr ⟨rfl, ?_⟩⟩
            have h160 := St.pickT (C := [_, _, _, _, _, _]) h159 [1, 2, 3, 4, 0, 5] (by decide)
            simp only [pick, List.filterMap_cons, List.filterMap_nil, List.getElem?_cons_zero, List.getElem?_cons_succ, List.cons_append, List.nil_append] at h160
            obtain ⟨x_162, hr161, hR⟩ := hR
            refine Plan.call (vs := [.pointer (some ⟨b0_33, 0, none⟩), AG [(16, fun q => VU .u8 (x_158 q))]]) rfl FAesStreams.call15 rfl (aes_Cipher_Encrypt_ok  hr161 h160) ?_
            rintro _ w163 ⟨rfl, h163⟩
            refine ⟨_, rfl, .inl ⟨PIn.keep PIn.nil h163, ?_⟩⟩
            refine Plan.alloc h163 rfl FAesStreams.z27 PIn.nil fun b164 w164 hb164 h164 => ?_
            simp only [rngs, Nat.zero_add, Nat.reduceAdd, List.cons_append, List.nil_append] at h164
            refine Plan.storeA (f' := fun q => VU .u8 (x_162 q)) h164 0 rfl rfl rfl rfl (fun _ _ => rfl) FAesStreams.sz27 rfl fun w165 h165 => ?_
            simp only [List.set_cons_zero, List.set_cons_succ] at h165
            refine Plan.nil ?_
            refine hK155 _ _ ?_; clear hK155
            refine W.seq_k fun K166 hK166 => ?_
            refine W.regionD FAesStreams.mixed [(0, true), (1, true), (2, true), (3, true), (4, true), (5, true), (6, true), (7, true), (8, true), (9, true), (10, true), (11, true), (12, true), (13, true)] (by kernel_rfl) ?_
            have h167 := h165.drew
            refine Plan.move_slice rfl rfl ?_
            refine Plan.move_int rfl rfl ?_
            obtain ⟨hc168, hR⟩ := hR
            refine Plan.idxVS (j := i_146) h167 (hs145.bx 5 rfl) FAesStreams.sl28 rfl rfl rfl hc168 ?_
            refine Plan.loadV (j := i_146) h167 (hs145.bx 5 rfl) rfl rfl hc168 FAesStreams.sc5 fun r169 hr169 => ?_
            refine Plan.move_slice rfl rfl ?_
            refine Plan.move_int rfl rfl ?_
            obtain ⟨hc170, hR⟩ := hR
            refine Plan.idxVS (j := i_146) h167 ((Bx.unapp (D := [_, _, _, _, _, _]) hf41_0).app [_, _, _, _, _, _, _]) FAesStreams.sl28 rfl rfl rfl hc170 ?_
            refine Plan.loadV (j := i_146) h167 ((Bx.unapp (D := [_, _, _, _, _, _]) hf41_0).app [_, _, _, _, _, _, _]) rfl rfl hc170 FAesStreams.sc5 fun r171 hr171 => ?_
            refine Plan.move_int rfl rfl ?_
            refine Plan.remN (a := i_146) (b := 16) rfl rfl rfl (by omega) ?_
            refine Plan.idxArr1 (j := (i_146 % 16)) FAesStreams.arr27 rfl rfl rfl (by omega) ?_
            refine Plan.load1 (j := (i_146 % 16)) h167 0 rfl rfl rfl (by omega) FAesStreams.sc5 ?_
            refine Plan.xorU .u8 (X := (lit x_37 i_146)) (Y := (x_162 (i_146 % 16))) rfl rfl rfl ?_
            refine Plan.cmpP (a := ((lit s145 i_146).toNat : Int)) (b := (((lit x_37 i_146) ^^^ (x_162 (i_146 % 16))).toNat : Int)) (p := (lit s145 i_146) ≠ ((lit x_37 i_146) ^^^ (x_162 (i_146 % 16)))) rfl rfl rfl rfl icmp_neU ?_
            refine Plan.nil ?_
            refine hK166 _ _ ?_; clear hK166
            by_cases hc172 : (lit s145 i_146) ≠ ((lit x_37 i_146) ^^^ (x_162 (i_146 % 16)))
            ·
              replace hR := ifT hR hc172
              refine W.condT (congrArg Value.bool (decide_eq_true hc172)) ?_
              refine W.seq_k fun K173 hK173 => ?_
              refine W.regionT [(0, true)] (by kernel_rfl) ?_
              refine Plan.assign_bool rfl rfl ?_
              refine Plan.nil ?_
              refine hK173 _ _ ?_; clear hK173
              refine W.ret (blockR_ret (thenR_ret (iterR_ret (blockR_ret (thenR_ret (thenR_ret (finR_ret ?_)))))))
              have h174 := St.pickT (C := [_, _, _, _, _, _, _]) h167 [] (by decide)
              simp only [pick, List.filterMap_cons, List.filterMap_nil, List.getElem?_cons_zero, List.getElem?_cons_succ, List.cons_append, List.nil_append] at h174
              replace hR := hR.2
              subst r
              refine RetOk.mk (.tmp_bool rfl .nil) ?_
              exact ⟨rfl, h174⟩
            ·
              replace hR := ifF hR hc172
              refine W.condF (congrArg Value.bool (decide_eq_false hc172)) ?_
              refine W.skip ?_
              refine blockR_norm ?_
              refine hK154 _ _ ?_; clear hK154
              refine W.regionT [(0, true), (1, true), (2, true)] (by kernel_rfl) ?_
              refine Plan.move_int rfl rfl ?_
              obtain ⟨hc175, hR⟩ := hR
              refine Plan.addN (a := i_146) (b := 1) rfl rfl rfl (by omega) ?_
              refine Plan.assign_int rfl rfl ?_
              refine Plan.nil ?_
              have h176 := St.pickT (C := [_, _, _, _, _, _, _]) h167 [5, 1, 2, 3, 4, 6] (by decide)
              simp only [pick, List.filterMap_cons, List.filterMap_nil, List.getElem?_cons_zero, List.getElem?_cons_succ, List.cons_append, List.nil_append] at h176
              exact iterR_norm ⟨_, hR, as145, ps145, cs145, Fs145, (EnvHas.cons rfl (EnvHas.cons rfl (EnvHas.cons rfl (EnvHas.cons rfl (EnvHas.cons rfl (EnvHas.cons rfl (EnvHas.cons rfl EnvHas.nil))))))), h176, hs145⟩
          ·
            replace hR := ifF hR hc153
            refine W.condF (congrArg Value.bool (decide_eq_false hc153)) ?_
            refine W.exit (thenR_exit (iterR_exit (blockR_here ?_)))
            exact ⟨s145, (hx148 _ hR).symm, as145, ps145, cs145, Fs145, (EnvHas.cons rfl (EnvHas.cons rfl (EnvHas.cons rfl (EnvHas.cons rfl (EnvHas.cons rfl (EnvHas.cons rfl EnvHas.nil)))))), h150, hs145⟩
        ·
          rintro ev177 wl177 ⟨y_s147, hy177, as147, ps147, cs147, Fs147, he177, h177, hs147⟩
          obtain ⟨ev177, rfl⟩ := he177.open
          replace hR := hR0148 y_s147 hy177; clear hR0148
          obtain ⟨s147, e_s147⟩ : ∃ z, z = y_s147 := ⟨_, rfl⟩; subst e_s147
          refine hK94 _ _ ?_; clear hK94
          refine W.seq_k fun K178 hK178 => ?_
          refine W.regionT [(0, true), (1, true), (2, true), (3, true)] (by kernel_rfl) ?_
          refine Plan.move_slice rfl rfl ?_
          refine Plan.len FAesStreams.isl28 rfl rfl ?_
          obtain ⟨hc179, hR⟩ := hR
          refine Plan.quoN (a := x_37.length) (b := 16) rfl rfl rfl (by omega) ?_
          refine Plan.assign_int rfl rfl ?_
          refine Plan.nil ?_
          refine hK178 _ _ ?_; clear hK178
          refine W.seq_k fun K180 hK180 => ?_
          refine W.regionT [(0, true), (1, true), (2, true), (3, true), (4, false), (5, true), (6, false), (7, true)] (by kernel_rfl) ?_
          refine Plan.move_slice rfl rfl ?_
          refine Plan.move_int rfl rfl ?_
          obtain ⟨hc181, hR⟩ := hR
          refine Plan.mulN (a := 16) (b := (x_37.length / 16)) rfl rfl rfl (by omega) ?_
          obtain ⟨hc182, hR⟩ := hR
          refine Plan.slV (lo := 0) (hi := (16 * (x_37.length / 16))) (Bx.unapp (D := [_, _, _, _, _, _]) hf41_0) FAesStreams.sl28 rfl rfl rfl ⟨_, rfl⟩ hc182 fun a183 c183 hv183 => ?_
          have h184 := h177.nilR
          obtain ⟨hc186, hR⟩ := hR
          refine Plan.appendO (X := ([] : List Byte)) (Y := (seg x_37 0 (16 * (x_37.length / 16)))) h184 0 Ow.nil FAesStreams.el28 FAesStreams.sl28 rfl rfl rfl rfl (hv183.app [_, _, _, _, _, _, _]) hc186 (fun _ => EffO.keep PIn.nil) fun a185 pb185 cap185 F185 w185 ho185 h185 => ?_
          simp only [List.set_cons_zero, List.set_cons_succ] at h185
          refine Plan.move_slice rfl rfl ?_
          obtain ⟨hc188, hR⟩ := hR
          refine Plan.appendO (X := (([] : List Byte) ++ (seg x_37 0 (16 * (x_37.length / 16))))) (Y := x_43) h185 0 ho185 FAesStreams.el28 FAesStreams.sl28 rfl rfl rfl rfl ((Bx.unapp (D := [_, _, _, _, _, _]) hf47_0).app [_, _, _, _, _, _, _]) hc188 (fun _ => EffO.keep PIn.nil) fun a187 pb187 cap187 F187 w187 ho187 h187 => ?_
          simp only [List.set_cons_zero, List.set_cons_succ] at h187
          refine Plan.assign_slice rfl rfl ?_
          refine Plan.nil ?_
          refine hK180 _ _ ?_; clear hK180
          refine W.seq_k fun K189 hK189 => ?_
          refine W.regionT [(0, true), (1, true), (2, true), (3, false), (4, true)] (by kernel_rfl) ?_
          refine Plan.move_ptr rfl rfl ?_
          refine Plan.loadA1 h187 6 rfl rfl rfl FAesStreams.agg27 ?_
          refine Plan.move_slice rfl rfl ?_
          have h190 := St.pickT (C := [_, _, _, _, _, _, _]) h187 [2, 3, 4, 5, 0, 1, 6] (by decide)
          simp only [pick, List.filterMap_cons, List.filterMap_nil, List.getElem?_cons_zero, List.getElem?_cons_succ, List.cons_append, List.nil_append] at h190
          obtain ⟨x_192, hr191, hR⟩ := hR
          refine Plan.call (vs := [.pointer (some ⟨b0_33, 0, none⟩), AG [(16, fun q => VU .u8 (first2 q))], .slice a187 (((([] : List Byte) ++ (seg x_37 0 (16 * (x_37.length / 16)))) ++ x_43).length) cap187]) rfl FAesStreams.call13 rfl (aes_Cipher_Stream_ok (ho187.bx 0 rfl) hr191 h190) ?_
          rintro _ w198 ⟨ay0_193, py0_194, ny0_195, cy0_196, Fy0_197, rfl, h198, hf198_0⟩
          obtain rfl := hf198_0.hl
          refine ⟨_, rfl, .inr ⟨rfl, ?_⟩⟩
          refine Plan.assign_slice rfl rfl ?_
          refine Plan.nil ?_
          refine hK189 _ _ ?_; clear hK189
          refine W.seq_k fun K199 hK199 => ?_
          refine W.seq_k fun K200 hK200 => ?_
          refine W.regionD FAesStreams.mixed [(0, true), (1, true), (2, true), (3, true), (4, true), (6, true), (7, true), (8, true), (9, true), (11, true), (5, false), (10, false), (12, false), (13, false), (14, false), (15, true)] (by kernel_rfl) ?_
          have h201 := h198.drew
          refine Plan.move_slice rfl rfl ?_
          refine Plan.move_slice rfl rfl ?_
          refine Plan.move_int rfl rfl ?_
          obtain ⟨hc202, hR⟩ := hR
          refine Plan.mulN (a := 16) (b := (x_37.length / 16)) rfl rfl rfl (by omega) ?_
          obtain ⟨hc203, hR⟩ := hR
          have hm204 := hs147.hc
          refine Plan.slSl (lo := 0) (hi := (16 * (x_37.length / 16))) FAesStreams.sl28 rfl rfl rfl ⟨_, rfl⟩ (by omega) ?_
          refine Plan.move_ptr rfl rfl ?_
          refine Plan.loadA1 h201 7 rfl rfl rfl FAesStreams.agg27 ?_
          refine Plan.move_int rfl rfl ?_
          refine Plan.convNU .u64 (a := (x_37.length / 16)) FAesStreams.u29 FAesStreams.some3 rfl rfl ?_
          refine Plan.move_slice rfl rfl ?_
          have h205 := h201.nilR
          obtain ⟨hc207, hR⟩ := hR
          refine Plan.appendO (X := ([] : List Byte)) (Y := (seg s147 0 (16 * (x_37.length / 16)))) h205 0 Ow.nil FAesStreams.el28 FAesStreams.sl28 rfl rfl rfl rfl ((hs147.bx 7 rfl).seg (lo := 0) (hi := (16 * (x_37.length / 16))) hc203) hc207 (fun _ => EffO.keep (PIn.cons 8 rfl PIn.nil)) fun a206 pb206 cap206 F206 w206 ho206 h206 => ?_
          simp only [List.set_cons_zero, List.set_cons_succ] at h206
          obtain ⟨x_209, hr208, hR⟩ := hR
          refine Plan.call (vs := [AG [(16, fun q => VU .u8 (first2 q))], VU .u64 (BitVec.ofNat 64 (x_37.length / 16))]) rfl FAesStreams.call16 rfl (aes_Next_ok  hr208 h206) ?_
          rintro _ w210 ⟨rfl, h210⟩
          refine ⟨_, rfl, .inr ⟨rfl, ?_⟩⟩
          have h211 := St.pickT (C := [_, _, _, _, _, _, _, _, _]) h210 [2, 3, 4, 5, 0, 1, 6, 7, 8] (by decide)
          simp only [pick, List.filterMap_cons, List.filterMap_nil, List.getElem?_cons_zero, List.getElem?_cons_succ, List.cons_append, List.nil_append] at h211
          obtain ⟨x_213, hr212, hR⟩ := hR
          refine Plan.call (vs := [.pointer (some ⟨b0_33, 0, none⟩), AG [(16, fun q => VU .u8 (x_209 q))], .slice ay0_44 x_43.length cy0_46]) rfl FAesStreams.call13 rfl (aes_Cipher_Stream_ok ((Bx.unapp (D := [_, _, _, _, _, _]) hf47_0).app [_, _, _, _, _]) hr212 h211) ?_
          rintro _ w219 ⟨ay0_214, py0_215, ny0_216, cy0_217, Fy0_218, rfl, h219, hf219_0⟩
          obtain rfl := hf219_0.hl
          refine ⟨_, rfl, .inl ⟨PIn.keep PIn.nil h219, ?_⟩⟩
          obtain ⟨hc221, hR⟩ := hR
          refine Plan.appendO (X := (([] : List Byte) ++ (seg s147 0 (16 * (x_37.length / 16))))) (Y := x_213) h219 5 ho206 FAesStreams.el28 FAesStreams.sl28 rfl rfl rfl rfl (hf219_0.bx 0 rfl) hc221 (fun _ => EffO.keep PIn.nil) fun a220 pb220 cap220 F220 w220 ho220 h220 => ?_
          simp only [List.set_cons_zero, List.set_cons_succ] at h220
          obtain ⟨x_223, hr222, hR⟩ := hR
          refine Plan.call (vs := [.slice ay0_193 x_192.length cy0_196, .slice a220 (((([] : List Byte) ++ (seg s147 0 (16 * (x_37.length / 16)))) ++ x_213).length) cap220]) rfl FAesStreams.call14 rfl (lethelaw04_Eq_ok (hf198_0.bx 6 rfl) (ho220.bx 5 rfl) hr222 h220) ?_
          rintro _ w224 ⟨rfl, h224⟩
          refine ⟨_, rfl, .inl ⟨PIn.keep PIn.nil h224, ?_⟩⟩
          refine Plan.not rfl rfl ?_
          refine Plan.nil ?_
          refine hK200 _ _ ?_; clear hK200
          by_cases hc225 : x_223 = true
          ·
            replace hR := ifT hR hc225
            refine W.condF (congrArg Value.bool (congrArg Bool.not hc225)) ?_
            refine W.skip ?_
            refine hK199 _ _ ?_; clear hK199
            refine W.seq_k fun K226 hK226 => ?_
            refine W.regionT [(0, true), (1, false), (2, false)] (by kernel_rfl) ?_
            refine Plan.buildArr (ps := [(16, fun q => VU .u8 ((lit [255#8, 255#8, 255#8, 255#8, 255#8, 255#8, 255#8, 255#8, 255#8, 255#8, 255#8, 255#8, 255#8, 255#8, 255#8, 255#8]) q))]) FAesStreams.arr27 FAesStreams.z27 rfl rfl (by kernel_rfl) ?_
            refine Plan.alloc h224 rfl FAesStreams.z27 PIn.nil fun b227 w227 hb227 h227 => ?_
            simp only [rngs, Nat.zero_add, Nat.reduceAdd, List.cons_append, List.nil_append] at h227
            refine Plan.storeA (f' := fun q => VU .u8 ((lit [255#8, 255#8, 255#8, 255#8, 255#8, 255#8, 255#8, 255#8, 255#8, 255#8, 255#8, 255#8, 255#8, 255#8, 255#8, 255#8]) q)) h227 0 rfl rfl rfl rfl (fun _ _ => rfl) FAesStreams.sz27 rfl fun w228 h228 => ?_
            simp only [List.set_cons_zero, List.set_cons_succ] at h228
            refine Plan.nil ?_
            refine hK226 _ _ ?_; clear hK226
            refine W.seq_k fun K229 hK229 => ?_
            refine W.regionT [(0, true), (1, true), (2, true)] (by kernel_rfl) ?_
            refine Plan.move_int rfl rfl ?_
            refine Plan.quoU .u64 (X := n_5) (Y := 2#64) rfl rfl rfl (by decide) ?_
            refine Plan.assign_int rfl rfl ?_
            refine Plan.nil ?_
            refine hK229 _ _ ?_; clear hK229
            refine W.seq_k fun K230 hK230 => ?_
            refine W.regionD FAesStreams.mixed [(0, true), (1, true), (3, true), (4, true), (5, true), (7, true), (8, true), (2, false), (6, false), (9, false), (10, true), (11, true), (12, true), (14, true), (13, false), (15, true), (16, true), (17, true), (18, true), (20, true), (19, false), (21, true), (22, true), (23, true)] (by kernel_rfl) ?_
            have h231 := h228.drew
            refine Plan.loadA1 h231 10 rfl rfl rfl FAesStreams.agg27 ?_
            refine Plan.move_int rfl rfl ?_
            refine Plan.move_int rfl rfl ?_
            refine Plan.move_int rfl rfl ?_
            refine Plan.subU .u64 (X := n_5) (Y := (n_5 / (2#64))) rfl rfl rfl ?_
            refine Plan.loadA1 h231 10 rfl rfl rfl FAesStreams.agg27 ?_
            refine Plan.move_int rfl rfl ?_
            obtain ⟨x_233, hr232, hR⟩ := hR
            refine Plan.call (vs := [AG [(16, fun q => VU .u8 (first2 q))], VU .u64 (n_5 / (2#64))]) rfl FAesStreams.call16 rfl (aes_Next_ok  hr232 h231) ?_
            rintro _ w234 ⟨rfl, h234⟩
            refine ⟨_, rfl, .inl ⟨PIn.keep (PIn.cons 10 rfl (PIn.cons 10 rfl PIn.nil)) h234, ?_⟩⟩
            obtain ⟨x_236, hr235, hR⟩ := hR
            refine Plan.call (vs := [AG [(16, fun q => VU .u8 (x_233 q))], VU .u64 (n_5 - (n_5 / (2#64)))]) rfl FAesStreams.call16 rfl (aes_Next_ok  hr235 h234) ?_
            rintro _ w237 ⟨rfl, h237⟩
            refine ⟨_, rfl, .inl ⟨PIn.keep (PIn.cons 10 rfl (PIn.cons 10 rfl PIn.nil)) h237, ?_⟩⟩
            obtain ⟨x_239, hr238, hR⟩ := hR
            refine Plan.call (vs := [AG [(16, fun q => VU .u8 (first2 q))], VU .u64 n_5]) rfl FAesStreams.call16 rfl (aes_Next_ok  hr238 h237) ?_
            rintro _ w240 ⟨rfl, h240⟩
            refine ⟨_, rfl, .inl ⟨PIn.keep (PIn.cons 10 rfl (PIn.cons 10 rfl PIn.nil)) h240, ?_⟩⟩
            by_cases hc241 : (eqB 16 x_236 x_239) = true
            ·
              replace hR := ifT hR hc241
              refine Plan.eqArrV (b := true) FAesStreams.arrI27 rfl rfl rfl hc241 ?_
              refine Plan.move_bool rfl rfl ?_
              refine Plan.loadA1 h240 0 rfl rfl rfl FAesStreams.agg27 ?_
              refine Plan.buildZ FAesStreams.row27 FAesStreams.z27 rfl ?_
              obtain ⟨x_243, hr242, hR⟩ := hR
              refine Plan.call (vs := [AG [(16, fun q => VU .u8 ((lit [255#8, 255#8, 255#8, 255#8, 255#8, 255#8, 255#8, 255#8, 255#8, 255#8, 255#8, 255#8, 255#8, 255#8, 255#8, 255#8]) q))], VU .u64 (1#64)]) rfl FAesStreams.call16 rfl (aes_Next_ok  hr242 h240) ?_
              rintro _ w244 ⟨rfl, h244⟩
              refine ⟨_, rfl, .inl ⟨PIn.keep (PIn.cons 0 rfl (PIn.cons 10 rfl (PIn.cons 10 rfl PIn.nil))) h244, ?_⟩⟩
              by_cases hc245 : (eqB 16 x_243 (fun _ => 0#8)) = true
              ·
                replace hR := ifT hR hc245
                refine Plan.eqArrV (b := true) FAesStreams.arrI27 rfl rfl rfl hc245 ?_
                refine Plan.pickTb rfl rfl rfl ?_
                refine Plan.move_bool rfl rfl ?_
                refine Plan.loadA1 h244 10 rfl rfl rfl FAesStreams.agg27 ?_
                refine Plan.loadA1 h244 10 rfl rfl rfl FAesStreams.agg27 ?_
                obtain ⟨x_247, hr246, hR⟩ := hR
                refine Plan.call (vs := [AG [(16, fun q => VU .u8 (first2 q))], VU .u64 (0#64)]) rfl FAesStreams.call16 rfl (aes_Next_ok  hr246 h244) ?_
                rintro _ w248 ⟨rfl, h248⟩
                refine ⟨_, rfl, .inl ⟨PIn.keep (PIn.cons 10 rfl (PIn.cons 10 rfl (PIn.cons 0 rfl (PIn.cons 10 rfl (PIn.cons 10 rfl PIn.nil))))) h248, ?_⟩⟩
                refine Plan.eqArrV (b := (eqB 16 x_247 first2)) FAesStreams.arrI27 rfl rfl rfl rfl ?_
                refine Plan.pickTb rfl rfl rfl ?_
                refine Plan.assign_bool rfl rfl ?_
                refine Plan.nil ?_
                refine hK230 _ _ ?_; clear hK230
                refine W.ret (finR_ret ?_)
                have h249 := St.pickT (C := [_, _, _, _, _, _, _, _, _, _, _]) h248 [] (by decide)
                simp only [pick, List.filterMap_cons, List.filterMap_nil, List.getElem?_cons_zero, List.getElem?_cons_succ, List.cons_append, List.nil_append] at h249
                subst r
                refine RetOk.mk (.tmp_bool rfl .nil) ?_
                exact ⟨rfl, h249⟩
              ·
                replace hR := ifF hR hc245
                refine Plan.eqArrV (b := false) FAesStreams.arrI27 rfl rfl rfl (Bool.eq_false_iff.2 hc245) ?_
                refine Plan.pickTb rfl rfl rfl ?_
                refine Plan.move_bool rfl rfl ?_
                refine Plan.passed rfl ?_
                refine Plan.passed rfl ?_
                refine Plan.passed rfl ?_
                refine Plan.passed rfl ?_
                refine Plan.pickFb rfl rfl rfl ?_
                refine Plan.assign_bool rfl rfl ?_
                refine Plan.nil ?_
                refine hK230 _ _ ?_; clear hK230
                refine W.ret (finR_ret ?_)
                have h250 := St.pickT (C := [_, _, _, _, _, _, _, _, _, _, _]) h244 [] (by decide)
                simp only [pick, List.filterMap_cons, List.filterMap_nil, List.getElem?_cons_zero, List.getElem?_cons_succ, List.cons_append, List.nil_append] at h250
                subst r
                refine RetOk.mk (.tmp_bool rfl .nil) ?_
                exact ⟨rfl, h250⟩
            ·
              replace hR := ifF hR hc241
              refine Plan.eqArrV (b := false) FAesStreams.arrI27 rfl rfl rfl (Bool.eq_false_iff.2 hc241) ?_
              refine Plan.move_bool rfl rfl ?_
              refine Plan.passed rfl ?_
              refine Plan.passed rfl ?_
              refine Plan.passed rfl ?_
              refine Plan.passed rfl ?_
              refine Plan.pickFb rfl rfl rfl ?_
              refine Plan.move_bool rfl rfl ?_
              refine Plan.passed rfl ?_
              refine Plan.passed rfl ?_
              refine Plan.passed rfl ?_
              refine Plan.passed rfl ?_
              refine Plan.pickFb rfl rfl rfl ?_
              refine Plan.assign_bool rfl rfl ?_
              refine Plan.nil ?_
              refine hK230 _ _ ?_; clear hK230
              refine W.ret (finR_ret ?_)
              have h251 := St.pickT (C := [_, _, _, _, _, _, _, _, _, _, _]) h240 [] (by decide)
              simp only [pick, List.filterMap_cons, List.filterMap_nil, List.getElem?_cons_zero, List.getElem?_cons_succ, List.cons_append, List.nil_append] at h251
              subst r
              refine RetOk.mk (.tmp_bool rfl .nil) ?_
              exact ⟨rfl, h251⟩
          ·
            replace hR := ifF hR hc225
            refine W.condT (congrArg Value.bool (congrArg Bool.not (Bool.eq_false_iff.2 hc225))) ?_
            refine W.seq_k fun K252 hK252 => ?_
            refine W.regionT [(0, true)] (by kernel_rfl) ?_
            refine Plan.assign_bool rfl rfl ?_
            refine Plan.nil ?_
            refine hK252 _ _ ?_; clear hK252
            refine W.ret (thenR_ret (finR_ret ?_))
            have h253 := St.pickT (C := [_, _, _, _, _, _, _, _, _, _]) h224 [] (by decide)
            simp only [pick, List.filterMap_cons, List.filterMap_nil, List.getElem?_cons_zero, List.getElem?_cons_succ, List.cons_append, List.nil_append] at h253
            subst r
            refine RetOk.mk (.tmp_bool rfl .nil) ?_
            exact ⟨rfl, h253⟩
      ·
        replace hR := ifF hR hc93
        refine W.condT (congrArg Value.bool (congrArg Bool.not (Bool.eq_false_iff.2 hc93))) ?_
        refine W.seq_k fun K254 hK254 => ?_
        refine W.regionT [(0, true)] (by kernel_rfl) ?_
        refine Plan.assign_bool rfl rfl ?_
        refine Plan.nil ?_
        refine hK254 _ _ ?_; clear hK254
        refine W.ret (thenR_ret (finR_ret ?_))
        have h255 := St.pickT (C := [_, _, _, _, _, _, _, _]) h92 [] (by decide)
        simp only [pick, List.filterMap_cons, List.filterMap_nil, List.getElem?_cons_zero, List.getElem?_cons_succ, List.cons_append, List.nil_append] at h255
        subst r
        refine RetOk.mk (.tmp_bool rfl .nil) ?_
        exact ⟨rfl, h255⟩

end Go.Proofs.Ythjkmhdgenmnoaa
