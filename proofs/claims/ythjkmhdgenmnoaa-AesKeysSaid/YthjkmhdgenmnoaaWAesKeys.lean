/-
  WALKS of the package's functions, printed by this session's own program (auto.py).
-/
import Derived.Test.YthjkmhdgenmnoaaProg
import Derived.Test.YthjkmhdgenmnoaaLx3
import Derived.Test.YthjkmhdgenmnoaaRAesKeys
import Derived.Test.YthjkmhdgenmnoaaWAes
import Derived.Test.YthjkmhdgenmnoaaWLaw04
namespace Go.Proofs.Ythjkmhdgenmnoaa
set_option linter.unusedSimpArgs false
set_option linter.unusedVariables false
set_option linter.unusedSectionVars false
open Go Go.LW
theorem FAesKeys.mixed : Try.prog.follows .mixedOrders = true := by kernel_rfl
theorem FAesKeys.isl28 : ∃ el, Try.prog.underlying 28 = some (.slice el) := ⟨5, by kernel_rfl⟩
theorem FAesKeys.call19 : callB Try.prog 19 = true := by kernel_rfl
theorem FAesKeys.ptr30 : ptrB Try.prog 30 = true := by kernel_rfl
theorem FAesKeys.agg27 : aggT Try.prog 27 16 = true := by kernel_rfl
theorem FAesKeys.z27 : zeroIs Try.prog 27 [(16, fun _ => VU .u8 0#8)] := zeroIs_agg (by kernel_rfl)
theorem FAesKeys.sz27 : szT Try.prog 27 16 = true := by kernel_rfl
theorem FAesKeys.call15 : callB Try.prog 15 = true := by kernel_rfl
theorem FAesKeys.call17 : callB Try.prog 17 = true := by kernel_rfl
theorem FAesKeys.arrI27 : arrIB Try.prog 27 16 .u8 = true := by kernel_rfl
theorem FAesKeys.el28 : elD Try.prog 28 = some (1, 1, some (VU .u8 0#8)) := by kernel_rfl
theorem FAesKeys.call20 : callB Try.prog 20 = true := by kernel_rfl
theorem FAesKeys.call12 : callB Try.prog 12 = true := by kernel_rfl
theorem FAesKeys.call13 : callB Try.prog 13 = true := by kernel_rfl
theorem FAesKeys.call14 : callB Try.prog 14 = true := by kernel_rfl

set_option maxRecDepth 8000 in
set_option maxHeartbeats 1000000 in
theorem lethelaw04_AesKeys_ok {B : Nat} {w0 w : World} {L : List Rg} {key1 : List Byte} {akey1 : Option Addr} {nkey1 ckey1 ikey1 : Nat} (hkey1 : Bx L ikey1 akey1 nkey1 ckey1 key1) {block2 : Nat → BitVec 8} {text3 : List Byte} {atext3 : Option Addr} {ntext3 ctext3 itext3 : Nat} (htext3 : Bx L itext3 atext3 ntext3 ctext3 text3) {r : Bool} (hR : lethelaw04_AesKeys key1 block2 text3 r) (HST : St B w0 (L) w) :
    Calls Try.prog 7 #[.slice akey1 nkey1 ckey1, AG [(16, fun q => VU .u8 (block2 q))], .slice atext3 ntext3 ctext3] w fun e w' => e = .returned (.bool r) ∧ St B w0 (L) w' := by
  refine W.enter 97 Try.func7 rfl rfl rfl ?_
  unfold lethelaw04_AesKeys at hR
  have ekey1 := hkey1.hl; subst ekey1
  have etext3 := htext3.hl; subst etext3
  refine W.seq_k fun K4 hK4 => ?_
  refine W.regionT [(0, false), (1, true)] (by kernel_rfl) ?_
  refine Plan.boxA HST rfl rfl PIn.nil fun b5 w5 hb5 h5 => ?_
  simp only [rngs, Nat.zero_add, Nat.reduceAdd, List.cons_append, List.nil_append] at h5
  refine Plan.assign_bool rfl rfl ?_
  refine Plan.nil ?_
  refine hK4 _ _ ?_; clear hK4
  refine W.seq_k fun K6 hK6 => ?_
  refine W.regionT [(0, false), (1, false), (2, true), (3, true), (4, true), (5, true), (6, true)] (by kernel_rfl) ?_
  refine Plan.makeO (len := 32) (c := 32) h5 FAesKeys.el28 rfl rfl rfl (by omega) (by omega) (fun _ => EffO.keep PIn.nil) fun b7 w7 hb7 ho7 h7 => ?_
  rcases hR with ⟨x_9, hr8, hR⟩ | ⟨x_10, x_11, x_12, x_13, x_14, hr8, hR⟩
  ·
    refine Plan.call (vs := [.slice (some ⟨b7, 0, none⟩) ((List.replicate 32 0#8).length) 32]) rfl FAesKeys.call19 rfl (aes_New_ok (ho7.bx 0 rfl) hr8 h7) ?_
    rintro _ w15 ⟨rfl, h15⟩
    refine ⟨_, rfl, .inl ⟨PIn.keep PIn.nil h15, ?_⟩⟩
    refine Plan.move_tuple rfl rfl ?_
    refine Plan.extract_ptr rfl rfl rfl ?_
    refine Plan.extract_int rfl rfl rfl ?_
    refine Plan.assign_ptr rfl rfl ?_
    refine Plan.assign_int rfl rfl ?_
    refine Plan.nil ?_
    refine hK6 _ _ ?_; clear hK6
    refine W.seq_k fun K16 hK16 => ?_
    refine W.seq_k fun K21 hK21 => ?_
    refine W.regionT [(0, true), (1, true), (2, true), (3, true), (4, true), (5, true)] (by kernel_rfl) ?_
    refine Plan.move_int rfl rfl ?_
    by_cases hc22 : x_9 ≠ 0
    ·
      replace hR := ifT hR hc22
      refine Plan.cmpV (a := (((x_9 : Nat) : Int) : Int)) (b := (0 : Int)) (p := x_9 ≠ 0) (v := true) rfl rfl rfl rfl icmp_neN (decide_eq_true hc22) ?_
      refine Plan.move_bool rfl rfl ?_
      refine Plan.passed rfl ?_
      refine Plan.passed rfl ?_
      refine Plan.pickTb rfl rfl rfl ?_
      refine Plan.nil ?_
      refine hK21 _ _ ?_; clear hK21
      refine W.condT rfl ?_
      refine W.seq_k fun K23 hK23 => ?_
      refine W.regionT [(0, true)] (by kernel_rfl) ?_
      refine Plan.assign_bool rfl rfl ?_
      refine Plan.nil ?_
      refine hK23 _ _ ?_; clear hK23
      refine W.ret (thenR_ret (finR_ret ?_))
      have h24 := St.pickT (C := [_, _]) h15 [] (by decide)
      simp only [pick, List.filterMap_cons, List.filterMap_nil, List.getElem?_cons_zero, List.getElem?_cons_succ, List.cons_append, List.nil_append] at h24
      subst r
      refine RetOk.mk (.tmp_bool rfl .nil) ?_
      exact ⟨rfl, h24⟩
    ·
      replace hR := ifF hR hc22
      refine Plan.cmpV (a := (((x_9 : Nat) : Int) : Int)) (b := (0 : Int)) (p := x_9 ≠ 0) (v := false) rfl rfl rfl rfl icmp_neN (decide_eq_false hc22) ?_
      refine Plan.move_bool rfl rfl ?_
      refine Plan.move_ptr rfl rfl ?_
      refine Plan.eqNil (b := true) FAesKeys.ptr30 rfl rfl rfl rfl ?_
      refine Plan.pickFb rfl rfl rfl ?_
      refine Plan.nil ?_
      refine hK21 _ _ ?_; clear hK21
      refine W.condT rfl ?_
      refine W.seq_k fun K25 hK25 => ?_
      refine W.regionT [(0, true)] (by kernel_rfl) ?_
      refine Plan.assign_bool rfl rfl ?_
      refine Plan.nil ?_
      refine hK25 _ _ ?_; clear hK25
      refine W.ret (thenR_ret (finR_ret ?_))
      have h26 := St.pickT (C := [_, _]) h15 [] (by decide)
      simp only [pick, List.filterMap_cons, List.filterMap_nil, List.getElem?_cons_zero, List.getElem?_cons_succ, List.cons_append, List.nil_append] at h26
      subst r
      refine RetOk.mk (.tmp_bool rfl .nil) ?_
      exact ⟨rfl, h26⟩
  ·
    refine Plan.call (vs := [.slice (some ⟨b7, 0, none⟩) ((List.replicate 32 0#8).length) 32]) rfl FAesKeys.call19 rfl (aes_New_ok (ho7.bx 0 rfl) hr8 h7) ?_
    rintro _ w28 ⟨b0_27, rfl, h28⟩
    refine ⟨_, rfl, .inl ⟨PIn.keep PIn.nil h28, ?_⟩⟩
    refine Plan.move_tuple rfl rfl ?_
    refine Plan.extract_ptr rfl rfl rfl ?_
    refine Plan.extract_int rfl rfl rfl ?_
    refine Plan.assign_ptr rfl rfl ?_
    refine Plan.assign_int rfl rfl ?_
    refine Plan.nil ?_
    refine hK6 _ _ ?_; clear hK6
    refine W.seq_k fun K29 hK29 => ?_
    refine W.seq_k fun K33 hK33 => ?_
    refine W.regionT [(0, true), (1, true), (2, true), (3, true), (4, true), (5, true)] (by kernel_rfl) ?_
    refine Plan.move_int rfl rfl ?_
    by_cases hc34 : x_14 ≠ 0
    ·
      replace hR := ifT hR hc34
      refine Plan.cmpV (a := (((x_14 : Nat) : Int) : Int)) (b := (0 : Int)) (p := x_14 ≠ 0) (v := true) rfl rfl rfl rfl icmp_neN (decide_eq_true hc34) ?_
      refine Plan.move_bool rfl rfl ?_
      refine Plan.passed rfl ?_
      refine Plan.passed rfl ?_
      refine Plan.pickTb rfl rfl rfl ?_
      refine Plan.nil ?_
      refine hK33 _ _ ?_; clear hK33
      refine W.condT rfl ?_
      refine W.seq_k fun K35 hK35 => ?_
      refine W.regionT [(0, true)] (by kernel_rfl) ?_
      refine Plan.assign_bool rfl rfl ?_
      refine Plan.nil ?_
      refine hK35 _ _ ?_; clear hK35
      refine W.ret (thenR_ret (finR_ret ?_))
      have h36 := St.pickT (C := [_, _, _, _, _, _]) h28 [] (by decide)
      simp only [pick, List.filterMap_cons, List.filterMap_nil, List.getElem?_cons_zero, List.getElem?_cons_succ, List.cons_append, List.nil_append] at h36
      subst r
      refine RetOk.mk (.tmp_bool rfl .nil) ?_
      exact ⟨rfl, h36⟩
    ·
      replace hR := ifF hR hc34
      refine Plan.cmpV (a := (((x_14 : Nat) : Int) : Int)) (b := (0 : Int)) (p := x_14 ≠ 0) (v := false) rfl rfl rfl rfl icmp_neN (decide_eq_false hc34) ?_
      refine Plan.move_bool rfl rfl ?_
      refine Plan.move_ptr rfl rfl ?_
      refine Plan.eqNil (b := false) FAesKeys.ptr30 rfl rfl rfl rfl ?_
      refine Plan.pickFb rfl rfl rfl ?_
      refine Plan.nil ?_
      refine hK33 _ _ ?_; clear hK33
      refine W.condF rfl ?_
      refine W.skip ?_
      refine hK29 _ _ ?_; clear hK29
      refine W.seq_k fun K37 hK37 => ?_
      refine W.regionT [(0, true), (1, false), (2, true), (3, true), (4, true), (5, true), (6, true)] (by kernel_rfl) ?_
      refine Plan.move_slice rfl rfl ?_
      rcases hR with ⟨x_39, hr38, hR⟩ | ⟨x_40, x_41, x_42, x_43, x_44, hr38, hR⟩
      ·
        refine Plan.call (vs := [.slice akey1 key1.length ckey1]) rfl FAesKeys.call19 rfl (aes_New_ok (hkey1.app [_, _, _, _, _, _]) hr38 h28) ?_
        rintro _ w45 ⟨rfl, h45⟩
        refine ⟨_, rfl, .inl ⟨PIn.keep PIn.nil h45, ?_⟩⟩
        refine Plan.move_tuple rfl rfl ?_
        refine Plan.extract_ptr rfl rfl rfl ?_
        refine Plan.extract_int rfl rfl rfl ?_
        refine Plan.assign_ptr rfl rfl ?_
        refine Plan.assign_int rfl rfl ?_
        refine Plan.nil ?_
        refine hK37 _ _ ?_; clear hK37
        refine W.seq_k fun K46 hK46 => ?_
        refine W.seq_k fun K47 hK47 => ?_
        refine W.regionT [(0, true), (1, true), (2, true)] (by kernel_rfl) ?_
        refine Plan.move_slice rfl rfl ?_
        refine Plan.len FAesKeys.isl28 rfl rfl ?_
        refine Plan.cmpP (a := (((key1.length : Nat) : Int) : Int)) (b := (32 : Int)) (p := key1.length ≠ 32) rfl rfl rfl rfl icmp_neN ?_
        refine Plan.nil ?_
        refine hK47 _ _ ?_; clear hK47
        by_cases hc48 : key1.length ≠ 32
        ·
          replace hR := ifT hR hc48
          refine W.condT (congrArg Value.bool (decide_eq_true hc48)) ?_
          refine W.seq_k fun K49 hK49 => ?_
          refine W.regionT [(0, true), (1, true), (2, true), (3, true), (4, true), (5, true), (6, true)] (by kernel_rfl) ?_
          refine Plan.move_int rfl rfl ?_
          by_cases hc50 : x_39 = 40
          ·
            replace hR := ifT hR hc50
            refine Plan.cmpV (a := (((x_39 : Nat) : Int) : Int)) (b := (40 : Int)) (p := x_39 = 40) (v := true) rfl rfl rfl rfl icmp_eqN (decide_eq_true hc50) ?_
            refine Plan.move_bool rfl rfl ?_
            refine Plan.move_ptr rfl rfl ?_
            refine Plan.eqNil (b := true) FAesKeys.ptr30 rfl rfl rfl rfl ?_
            refine Plan.pickTb rfl rfl rfl ?_
            refine Plan.assign_bool rfl rfl ?_
            refine Plan.nil ?_
            refine hK49 _ _ ?_; clear hK49
            refine W.ret (thenR_ret (finR_ret ?_))
            have h51 := St.pickT (C := [_, _, _, _, _, _]) h45 [] (by decide)
            simp only [pick, List.filterMap_cons, List.filterMap_nil, List.getElem?_cons_zero, List.getElem?_cons_succ, List.cons_append, List.nil_append] at h51
            subst r
            refine RetOk.mk (.tmp_bool rfl .nil) ?_
            exact ⟨rfl, h51⟩
          ·
            replace hR := ifF hR hc50
            refine Plan.cmpV (a := (((x_39 : Nat) : Int) : Int)) (b := (40 : Int)) (p := x_39 = 40) (v := false) rfl rfl rfl rfl icmp_eqN (decide_eq_false hc50) ?_
            refine Plan.move_bool rfl rfl ?_
            refine Plan.passed rfl ?_
            refine Plan.passed rfl ?_
            refine Plan.pickFb rfl rfl rfl ?_
            refine Plan.assign_bool rfl rfl ?_
            refine Plan.nil ?_
            refine hK49 _ _ ?_; clear hK49
            refine W.ret (thenR_ret (finR_ret ?_))
            have h52 := St.pickT (C := [_, _, _, _, _, _]) h45 [] (by decide)
            simp only [pick, List.filterMap_cons, List.filterMap_nil, List.getElem?_cons_zero, List.getElem?_cons_succ, List.cons_append, List.nil_append] at h52
            subst r
            refine RetOk.mk (.tmp_bool rfl .nil) ?_
            exact ⟨rfl, h52⟩
        ·
          replace hR := ifF hR hc48
          refine W.condF (congrArg Value.bool (decide_eq_false hc48)) ?_
          refine W.skip ?_
          refine hK46 _ _ ?_; clear hK46
          refine W.seq_k fun K53 hK53 => ?_
          refine W.seq_k fun K58 hK58 => ?_
          refine W.regionT [(0, true), (1, true), (2, true), (3, true), (4, true), (5, true)] (by kernel_rfl) ?_
          refine Plan.move_int rfl rfl ?_
          by_cases hc59 : x_39 ≠ 0
          ·
            replace hR := ifT hR hc59
            refine Plan.cmpV (a := (((x_39 : Nat) : Int) : Int)) (b := (0 : Int)) (p := x_39 ≠ 0) (v := true) rfl rfl rfl rfl icmp_neN (decide_eq_true hc59) ?_
            refine Plan.move_bool rfl rfl ?_
            refine Plan.passed rfl ?_
            refine Plan.passed rfl ?_
            refine Plan.pickTb rfl rfl rfl ?_
            refine Plan.nil ?_
            refine hK58 _ _ ?_; clear hK58
            refine W.condT rfl ?_
            refine W.seq_k fun K60 hK60 => ?_
            refine W.regionT [(0, true)] (by kernel_rfl) ?_
            refine Plan.assign_bool rfl rfl ?_
            refine Plan.nil ?_
            refine hK60 _ _ ?_; clear hK60
            refine W.ret (thenR_ret (finR_ret ?_))
            have h61 := St.pickT (C := [_, _, _, _, _, _]) h45 [] (by decide)
            simp only [pick, List.filterMap_cons, List.filterMap_nil, List.getElem?_cons_zero, List.getElem?_cons_succ, List.cons_append, List.nil_append] at h61
            subst r
            refine RetOk.mk (.tmp_bool rfl .nil) ?_
            exact ⟨rfl, h61⟩
          ·
            replace hR := ifF hR hc59
            refine Plan.cmpV (a := (((x_39 : Nat) : Int) : Int)) (b := (0 : Int)) (p := x_39 ≠ 0) (v := false) rfl rfl rfl rfl icmp_neN (decide_eq_false hc59) ?_
            refine Plan.move_bool rfl rfl ?_
            refine Plan.move_ptr rfl rfl ?_
            refine Plan.eqNil (b := true) FAesKeys.ptr30 rfl rfl rfl rfl ?_
            refine Plan.pickFb rfl rfl rfl ?_
            refine Plan.nil ?_
            refine hK58 _ _ ?_; clear hK58
            refine W.condT rfl ?_
            refine W.seq_k fun K62 hK62 => ?_
            refine W.regionT [(0, true)] (by kernel_rfl) ?_
            refine Plan.assign_bool rfl rfl ?_
            refine Plan.nil ?_
            refine hK62 _ _ ?_; clear hK62
            refine W.ret (thenR_ret (finR_ret ?_))
            have h63 := St.pickT (C := [_, _, _, _, _, _]) h45 [] (by decide)
            simp only [pick, List.filterMap_cons, List.filterMap_nil, List.getElem?_cons_zero, List.getElem?_cons_succ, List.cons_append, List.nil_append] at h63
            subst r
            refine RetOk.mk (.tmp_bool rfl .nil) ?_
            exact ⟨rfl, h63⟩
      ·
        refine Plan.call (vs := [.slice akey1 key1.length ckey1]) rfl FAesKeys.call19 rfl (aes_New_ok (hkey1.app [_, _, _, _, _, _]) hr38 h28) ?_
        rintro _ w65 ⟨b0_64, rfl, h65⟩
        refine ⟨_, rfl, .inl ⟨PIn.keep PIn.nil h65, ?_⟩⟩
        refine Plan.move_tuple rfl rfl ?_
        refine Plan.extract_ptr rfl rfl rfl ?_
        refine Plan.extract_int rfl rfl rfl ?_
        refine Plan.assign_ptr rfl rfl ?_
        refine Plan.assign_int rfl rfl ?_
        refine Plan.nil ?_
        refine hK37 _ _ ?_; clear hK37
        refine W.seq_k fun K66 hK66 => ?_
        refine W.seq_k fun K67 hK67 => ?_
        refine W.regionT [(0, true), (1, true), (2, true)] (by kernel_rfl) ?_
        refine Plan.move_slice rfl rfl ?_
        refine Plan.len FAesKeys.isl28 rfl rfl ?_
        refine Plan.cmpP (a := (((key1.length : Nat) : Int) : Int)) (b := (32 : Int)) (p := key1.length ≠ 32) rfl rfl rfl rfl icmp_neN ?_
        refine Plan.nil ?_
        refine hK67 _ _ ?_; clear hK67
        by_cases hc68 : key1.length ≠ 32
        ·
          replace hR := ifT hR hc68
          refine W.condT (congrArg Value.bool (decide_eq_true hc68)) ?_
          refine W.seq_k fun K69 hK69 => ?_
          refine W.regionT [(0, true), (1, true), (2, true), (3, true), (4, true), (5, true), (6, true)] (by kernel_rfl) ?_
          refine Plan.move_int rfl rfl ?_
          by_cases hc70 : x_44 = 40
          ·
            replace hR := ifT hR hc70
            refine Plan.cmpV (a := (((x_44 : Nat) : Int) : Int)) (b := (40 : Int)) (p := x_44 = 40) (v := true) rfl rfl rfl rfl icmp_eqN (decide_eq_true hc70) ?_
            refine Plan.move_bool rfl rfl ?_
            refine Plan.move_ptr rfl rfl ?_
            refine Plan.eqNil (b := false) FAesKeys.ptr30 rfl rfl rfl rfl ?_
            refine Plan.pickTb rfl rfl rfl ?_
            refine Plan.assign_bool rfl rfl ?_
            refine Plan.nil ?_
            refine hK69 _ _ ?_; clear hK69
            refine W.ret (thenR_ret (finR_ret ?_))
            have h71 := St.pickT (C := [_, _, _, _, _, _, _, _, _, _]) h65 [] (by decide)
            simp only [pick, List.filterMap_cons, List.filterMap_nil, List.getElem?_cons_zero, List.getElem?_cons_succ, List.cons_append, List.nil_append] at h71
            subst r
            refine RetOk.mk (.tmp_bool rfl .nil) ?_
            exact ⟨rfl, h71⟩
          ·
            replace hR := ifF hR hc70
            refine Plan.cmpV (a := (((x_44 : Nat) : Int) : Int)) (b := (40 : Int)) (p := x_44 = 40) (v := false) rfl rfl rfl rfl icmp_eqN (decide_eq_false hc70) ?_
            refine Plan.move_bool rfl rfl ?_
            refine Plan.passed rfl ?_
            refine Plan.passed rfl ?_
            refine Plan.pickFb rfl rfl rfl ?_
            refine Plan.assign_bool rfl rfl ?_
            refine Plan.nil ?_
            refine hK69 _ _ ?_; clear hK69
            refine W.ret (thenR_ret (finR_ret ?_))
            have h72 := St.pickT (C := [_, _, _, _, _, _, _, _, _, _]) h65 [] (by decide)
            simp only [pick, List.filterMap_cons, List.filterMap_nil, List.getElem?_cons_zero, List.getElem?_cons_succ, List.cons_append, List.nil_append] at h72
            subst r
            refine RetOk.mk (.tmp_bool rfl .nil) ?_
            exact ⟨rfl, h72⟩
        ·
          replace hR := ifF hR hc68
          refine W.condF (congrArg Value.bool (decide_eq_false hc68)) ?_
          refine W.skip ?_
          refine hK66 _ _ ?_; clear hK66
          refine W.seq_k fun K73 hK73 => ?_
          refine W.seq_k fun K77 hK77 => ?_
          refine W.regionT [(0, true), (1, true), (2, true), (3, true), (4, true), (5, true)] (by kernel_rfl) ?_
          refine Plan.move_int rfl rfl ?_
          by_cases hc78 : x_44 ≠ 0
          ·
            replace hR := ifT hR hc78
            refine Plan.cmpV (a := (((x_44 : Nat) : Int) : Int)) (b := (0 : Int)) (p := x_44 ≠ 0) (v := true) rfl rfl rfl rfl icmp_neN (decide_eq_true hc78) ?_
            refine Plan.move_bool rfl rfl ?_
            refine Plan.passed rfl ?_
            refine Plan.passed rfl ?_
            refine Plan.pickTb rfl rfl rfl ?_
            refine Plan.nil ?_
            refine hK77 _ _ ?_; clear hK77
            refine W.condT rfl ?_
            refine W.seq_k fun K79 hK79 => ?_
            refine W.regionT [(0, true)] (by kernel_rfl) ?_
            refine Plan.assign_bool rfl rfl ?_
            refine Plan.nil ?_
            refine hK79 _ _ ?_; clear hK79
            refine W.ret (thenR_ret (finR_ret ?_))
            have h80 := St.pickT (C := [_, _, _, _, _, _, _, _, _, _]) h65 [] (by decide)
            simp only [pick, List.filterMap_cons, List.filterMap_nil, List.getElem?_cons_zero, List.getElem?_cons_succ, List.cons_append, List.nil_append] at h80
            subst r
            refine RetOk.mk (.tmp_bool rfl .nil) ?_
            exact ⟨rfl, h80⟩
          ·
            replace hR := ifF hR hc78
            refine Plan.cmpV (a := (((x_44 : Nat) : Int) : Int)) (b := (0 : Int)) (p := x_44 ≠ 0) (v := false) rfl rfl rfl rfl icmp_neN (decide_eq_false hc78) ?_
            refine Plan.move_bool rfl rfl ?_
            refine Plan.move_ptr rfl rfl ?_
            refine Plan.eqNil (b := false) FAesKeys.ptr30 rfl rfl rfl rfl ?_
            refine Plan.pickFb rfl rfl rfl ?_
            refine Plan.nil ?_
            refine hK77 _ _ ?_; clear hK77
            refine W.condF rfl ?_
            refine W.skip ?_
            refine hK73 _ _ ?_; clear hK73
            refine W.seq_k fun K81 hK81 => ?_
            refine W.regionT [(0, true), (1, false), (2, true), (3, true), (4, true), (5, true), (6, true)] (by kernel_rfl) ?_
            refine Plan.move_slice rfl rfl ?_
            rcases hR with ⟨x_83, hr82, hR⟩ | ⟨x_84, x_85, x_86, x_87, x_88, hr82, hR⟩
            ·
              refine Plan.call (vs := [.slice akey1 key1.length ckey1]) rfl FAesKeys.call19 rfl (aes_New_ok (hkey1.app [_, _, _, _, _, _, _, _, _, _]) hr82 h65) ?_
              rintro _ w89 ⟨rfl, h89⟩
              refine ⟨_, rfl, .inl ⟨PIn.keep PIn.nil h89, ?_⟩⟩
              refine Plan.move_tuple rfl rfl ?_
              refine Plan.extract_ptr rfl rfl rfl ?_
              refine Plan.extract_int rfl rfl rfl ?_
              refine Plan.assign_ptr rfl rfl ?_
              refine Plan.assign_int rfl rfl ?_
              refine Plan.nil ?_
              refine hK81 _ _ ?_; clear hK81
              refine W.seq_k fun K90 hK90 => ?_
              refine W.seq_k fun K95 hK95 => ?_
              refine W.regionT [(0, true), (1, true), (2, true), (3, true), (4, true), (5, true)] (by kernel_rfl) ?_
              refine Plan.move_int rfl rfl ?_
              by_cases hc96 : x_83 ≠ 0
              ·
                replace hR := ifT hR hc96
                refine Plan.cmpV (a := (((x_83 : Nat) : Int) : Int)) (b := (0 : Int)) (p := x_83 ≠ 0) (v := true) rfl rfl rfl rfl icmp_neN (decide_eq_true hc96) ?_
                refine Plan.move_bool rfl rfl ?_
                refine Plan.passed rfl ?_
                refine Plan.passed rfl ?_
                refine Plan.pickTb rfl rfl rfl ?_
                refine Plan.nil ?_
                refine hK95 _ _ ?_; clear hK95
                refine W.condT rfl ?_
                refine W.seq_k fun K97 hK97 => ?_
                refine W.regionT [(0, true)] (by kernel_rfl) ?_
                refine Plan.assign_bool rfl rfl ?_
                refine Plan.nil ?_
                refine hK97 _ _ ?_; clear hK97
                refine W.ret (thenR_ret (finR_ret ?_))
                have h98 := St.pickT (C := [_, _, _, _, _, _, _, _, _, _]) h89 [] (by decide)
                simp only [pick, List.filterMap_cons, List.filterMap_nil, List.getElem?_cons_zero, List.getElem?_cons_succ, List.cons_append, List.nil_append] at h98
                subst r
                refine RetOk.mk (.tmp_bool rfl .nil) ?_
                exact ⟨rfl, h98⟩
              ·
                replace hR := ifF hR hc96
                refine Plan.cmpV (a := (((x_83 : Nat) : Int) : Int)) (b := (0 : Int)) (p := x_83 ≠ 0) (v := false) rfl rfl rfl rfl icmp_neN (decide_eq_false hc96) ?_
                refine Plan.move_bool rfl rfl ?_
                refine Plan.move_ptr rfl rfl ?_
                refine Plan.eqNil (b := true) FAesKeys.ptr30 rfl rfl rfl rfl ?_
                refine Plan.pickFb rfl rfl rfl ?_
                refine Plan.nil ?_
                refine hK95 _ _ ?_; clear hK95
                refine W.condT rfl ?_
                refine W.seq_k fun K99 hK99 => ?_
                refine W.regionT [(0, true)] (by kernel_rfl) ?_
                refine Plan.assign_bool rfl rfl ?_
                refine Plan.nil ?_
                refine hK99 _ _ ?_; clear hK99
                refine W.ret (thenR_ret (finR_ret ?_))
                have h100 := St.pickT (C := [_, _, _, _, _, _, _, _, _, _]) h89 [] (by decide)
                simp only [pick, List.filterMap_cons, List.filterMap_nil, List.getElem?_cons_zero, List.getElem?_cons_succ, List.cons_append, List.nil_append] at h100
                subst r
                refine RetOk.mk (.tmp_bool rfl .nil) ?_
                exact ⟨rfl, h100⟩
            ·
              refine Plan.call (vs := [.slice akey1 key1.length ckey1]) rfl FAesKeys.call19 rfl (aes_New_ok (hkey1.app [_, _, _, _, _, _, _, _, _, _]) hr82 h65) ?_
              rintro _ w102 ⟨b0_101, rfl, h102⟩
              refine ⟨_, rfl, .inl ⟨PIn.keep PIn.nil h102, ?_⟩⟩
              refine Plan.move_tuple rfl rfl ?_
              refine Plan.extract_ptr rfl rfl rfl ?_
              refine Plan.extract_int rfl rfl rfl ?_
              refine Plan.assign_ptr rfl rfl ?_
              refine Plan.assign_int rfl rfl ?_
              refine Plan.nil ?_
              refine hK81 _ _ ?_; clear hK81
              refine W.seq_k fun K103 hK103 => ?_
              refine W.seq_k fun K107 hK107 => ?_
              refine W.regionT [(0, true), (1, true), (2, true), (3, true), (4, true), (5, true)] (by kernel_rfl) ?_
              refine Plan.move_int rfl rfl ?_
              by_cases hc108 : x_88 ≠ 0
              ·
                replace hR := ifT hR hc108
                refine Plan.cmpV (a := (((x_88 : Nat) : Int) : Int)) (b := (0 : Int)) (p := x_88 ≠ 0) (v := true) rfl rfl rfl rfl icmp_neN (decide_eq_true hc108) ?_
                refine Plan.move_bool rfl rfl ?_
                refine Plan.passed rfl ?_
                refine Plan.passed rfl ?_
                refine Plan.pickTb rfl rfl rfl ?_
                refine Plan.nil ?_
                refine hK107 _ _ ?_; clear hK107
                refine W.condT rfl ?_
                refine W.seq_k fun K109 hK109 => ?_
                refine W.regionT [(0, true)] (by kernel_rfl) ?_
                refine Plan.assign_bool rfl rfl ?_
                refine Plan.nil ?_
                refine hK109 _ _ ?_; clear hK109
                refine W.ret (thenR_ret (finR_ret ?_))
                have h110 := St.pickT (C := [_, _, _, _, _, _, _, _, _, _, _, _, _, _]) h102 [] (by decide)
                simp only [pick, List.filterMap_cons, List.filterMap_nil, List.getElem?_cons_zero, List.getElem?_cons_succ, List.cons_append, List.nil_append] at h110
                subst r
                refine RetOk.mk (.tmp_bool rfl .nil) ?_
                exact ⟨rfl, h110⟩
              ·
                replace hR := ifF hR hc108
                refine Plan.cmpV (a := (((x_88 : Nat) : Int) : Int)) (b := (0 : Int)) (p := x_88 ≠ 0) (v := false) rfl rfl rfl rfl icmp_neN (decide_eq_false hc108) ?_
                refine Plan.move_bool rfl rfl ?_
                refine Plan.move_ptr rfl rfl ?_
                refine Plan.eqNil (b := false) FAesKeys.ptr30 rfl rfl rfl rfl ?_
                refine Plan.pickFb rfl rfl rfl ?_
                refine Plan.nil ?_
                refine hK107 _ _ ?_; clear hK107
                refine W.condF rfl ?_
                refine W.skip ?_
                refine hK103 _ _ ?_; clear hK103
                refine W.seq_k fun K111 hK111 => ?_
                refine W.regionT [(0, true), (1, true), (2, false), (3, false), (4, false)] (by kernel_rfl) ?_
                refine Plan.move_ptr rfl rfl ?_
                refine Plan.loadA1 h102 13 rfl rfl rfl FAesKeys.agg27 ?_
                have h112 := St.pickT (C := [_, _, _, _, _, _, _, _, _, _, _, _, _, _]) h102 [4, 5, 6, 7, 0, 1, 2, 3, 8, 9, 10, 11, 12, 13] (by decide)
                simp only [pick, List.filterMap_cons, List.filterMap_nil, List.getElem?_cons_zero, List.getElem?_cons_succ, List.cons_append, List.nil_append] at h112
                obtain ⟨x_114, hr113, hR⟩ := hR
                refine Plan.call (vs := [.pointer (some ⟨b0_64, 0, none⟩), AG [(16, fun q => VU .u8 (block2 q))]]) rfl FAesKeys.call15 rfl (aes_Cipher_Encrypt_ok  hr113 h112) ?_
                rintro _ w115 ⟨rfl, h115⟩
                refine ⟨_, rfl, .inr ⟨rfl, ?_⟩⟩
                refine Plan.alloc h115 rfl FAesKeys.z27 PIn.nil fun b116 w116 hb116 h116 => ?_
                simp only [rngs, Nat.zero_add, Nat.reduceAdd, List.cons_append, List.nil_append] at h116
                refine Plan.storeA (f' := fun q => VU .u8 (x_114 q)) h116 0 rfl rfl rfl rfl (fun _ _ => rfl) FAesKeys.sz27 rfl fun w117 h117 => ?_
                simp only [List.set_cons_zero, List.set_cons_succ] at h117
                refine Plan.nil ?_
                refine hK111 _ _ ?_; clear hK111
                refine W.seq_k fun K118 hK118 => ?_
                refine W.regionT [(0, true), (1, false)] (by kernel_rfl) ?_
                refine Plan.move_ptr rfl rfl ?_
                have h119 := St.pickT (C := [_, _, _, _, _, _, _, _, _, _, _, _, _, _, _]) h117 [1, 2, 3, 4, 0, 5, 6, 7, 8, 9, 10, 11, 12, 13, 14] (by decide)
                simp only [pick, List.filterMap_cons, List.filterMap_nil, List.getElem?_cons_zero, List.getElem?_cons_succ, List.cons_append, List.nil_append] at h119
                obtain ⟨x_121, hr120, hR⟩ := hR
                refine Plan.call (vs := [.pointer (some ⟨b0_64, 0, none⟩)]) rfl FAesKeys.call20 rfl (aes_Cipher_Wipe_ok  hr120 h119) ?_
                rintro _ w122 ⟨rfl, h122⟩
                refine ⟨_, rfl, .inl ⟨PIn.keep PIn.nil h122, ?_⟩⟩
                refine Plan.nil ?_
                refine hK118 _ _ ?_; clear hK118
                refine W.seq_k fun K123 hK123 => ?_
                refine W.regionT [(0, true), (1, false), (2, true)] (by kernel_rfl) ?_
                refine Plan.move_slice rfl rfl ?_
                obtain ⟨x_125, hr124, hR⟩ := hR
                refine Plan.call (vs := [.slice atext3 text3.length ctext3, VN 100]) rfl FAesKeys.call12 rfl (lethelaw04_short_ok (htext3.app [_, _, _, _, _, _, _, _, _, _, _, _, _, _, _]) hr124 h122) ?_
                rintro _ w129 ⟨ay0_126, ny0_127, cy0_128, rfl, h129, hf129_0⟩
                obtain rfl := hf129_0.hl
                refine ⟨_, rfl, .inl ⟨PIn.keep PIn.nil h129, ?_⟩⟩
                refine Plan.assign_slice rfl rfl ?_
                refine Plan.nil ?_
                refine hK123 _ _ ?_; clear hK123
                refine W.seq_k fun K130 hK130 => ?_
                refine W.regionD FAesKeys.mixed [(0, true), (1, true), (3, true), (2, false), (4, true), (5, true), (6, true), (7, true), (9, true), (10, true), (8, false), (11, false), (12, true), (13, true), (14, true), (15, true), (16, true), (18, true), (19, true), (17, false), (20, false), (21, true), (22, true), (23, true), (24, true), (25, true), (26, true), (28, true), (29, true), (30, true), (27, false), (31, false), (32, false), (33, true), (34, true)] (by kernel_rfl) ?_
                have h131 := h129.drew
                refine Plan.move_ptr rfl rfl ?_
                refine Plan.loadA1 h131 14 rfl rfl rfl FAesKeys.agg27 ?_
                refine Plan.loadA1 h131 4 rfl rfl rfl FAesKeys.agg27 ?_
                have h132 := St.pickT (C := [_, _, _, _, _, _, _, _, _, _, _, _, _, _, _]) h131 [5, 6, 7, 8, 0, 1, 2, 3, 4, 9, 10, 11, 12, 13, 14] (by decide)
                simp only [pick, List.filterMap_cons, List.filterMap_nil, List.getElem?_cons_zero, List.getElem?_cons_succ, List.cons_append, List.nil_append] at h132
                obtain ⟨x_134, hr133, hR⟩ := hR
                refine Plan.call (vs := [.pointer (some ⟨b0_101, 0, none⟩), AG [(16, fun q => VU .u8 (block2 q))]]) rfl FAesKeys.call15 rfl (aes_Cipher_Encrypt_ok  hr133 h132) ?_
                rintro _ w135 ⟨rfl, h135⟩
                refine ⟨_, rfl, .inl ⟨PIn.keep (PIn.cons 8 rfl (PIn.cons 14 rfl PIn.nil)) h135, ?_⟩⟩
                by_cases hc136 : (eqB 16 x_134 x_114) = true
                ·
                  replace hR := ifT hR hc136
                  refine Plan.eqArrV (b := true) FAesKeys.arrI27 rfl rfl rfl hc136 ?_
                  refine Plan.move_bool rfl rfl ?_
                  refine Plan.move_ptr rfl rfl ?_
                  refine Plan.loadA1 h135 14 rfl rfl rfl FAesKeys.agg27 ?_
                  refine Plan.move_ptr rfl rfl ?_
                  refine Plan.loadA1 h135 14 rfl rfl rfl FAesKeys.agg27 ?_
                  have h137 := St.pickT (C := [_, _, _, _, _, _, _, _, _, _, _, _, _, _, _]) h135 [4, 5, 6, 7, 0, 1, 2, 3, 8, 9, 10, 11, 12, 13, 14] (by decide)
                  simp only [pick, List.filterMap_cons, List.filterMap_nil, List.getElem?_cons_zero, List.getElem?_cons_succ, List.cons_append, List.nil_append] at h137
                  obtain ⟨x_139, hr138, hR⟩ := hR
                  refine Plan.call (vs := [.pointer (some ⟨b0_64, 0, none⟩), AG [(16, fun q => VU .u8 (block2 q))]]) rfl FAesKeys.call15 rfl (aes_Cipher_Encrypt_ok  hr138 h137) ?_
                  rintro _ w140 ⟨rfl, h140⟩
                  refine ⟨_, rfl, .inl ⟨PIn.keep (PIn.cons 14 rfl (PIn.cons 14 rfl (PIn.cons 8 rfl (PIn.cons 14 rfl PIn.nil)))) h140, ?_⟩⟩
                  have h141 := St.pickT (C := [_, _, _, _, _, _, _, _, _, _, _, _, _, _, _]) h140 [9, 10, 11, 12, 0, 1, 2, 3, 4, 5, 6, 7, 8, 13, 14] (by decide)
                  simp only [pick, List.filterMap_cons, List.filterMap_nil, List.getElem?_cons_zero, List.getElem?_cons_succ, List.cons_append, List.nil_append] at h141
                  obtain ⟨x_143, hr142, hR⟩ := hR
                  refine Plan.call (vs := [.pointer (some ⟨b0_27, 0, none⟩), AG [(16, fun q => VU .u8 (block2 q))]]) rfl FAesKeys.call15 rfl (aes_Cipher_Encrypt_ok  hr142 h141) ?_
                  rintro _ w144 ⟨rfl, h144⟩
                  refine ⟨_, rfl, .inl ⟨PIn.keep (PIn.cons 14 rfl (PIn.cons 14 rfl (PIn.cons 12 rfl (PIn.cons 14 rfl PIn.nil)))) h144, ?_⟩⟩
                  by_cases hc145 : (eqB 16 x_139 x_143) = true
                  ·
                    replace hR := ifT hR hc145
                    refine Plan.eqArrV (b := true) FAesKeys.arrI27 rfl rfl rfl hc145 ?_
                    refine Plan.pickTb rfl rfl rfl ?_
                    refine Plan.move_bool rfl rfl ?_
                    refine Plan.move_ptr rfl rfl ?_
                    refine Plan.loadA1 h144 14 rfl rfl rfl FAesKeys.agg27 ?_
                    refine Plan.move_ptr rfl rfl ?_
                    refine Plan.loadA1 h144 14 rfl rfl rfl FAesKeys.agg27 ?_
                    have h146 := St.pickT (C := [_, _, _, _, _, _, _, _, _, _, _, _, _, _, _]) h144 [4, 5, 6, 7, 0, 1, 2, 3, 8, 9, 10, 11, 12, 13, 14] (by decide)
                    simp only [pick, List.filterMap_cons, List.filterMap_nil, List.getElem?_cons_zero, List.getElem?_cons_succ, List.cons_append, List.nil_append] at h146
                    obtain ⟨x_148, hr147, hR⟩ := hR
                    refine Plan.call (vs := [.pointer (some ⟨b0_64, 0, none⟩), AG [(16, fun q => VU .u8 (block2 q))]]) rfl FAesKeys.call17 rfl (aes_Cipher_Decrypt_ok  hr147 h146) ?_
                    rintro _ w149 ⟨rfl, h149⟩
                    refine ⟨_, rfl, .inl ⟨PIn.keep (PIn.cons 14 rfl (PIn.cons 14 rfl (PIn.cons 14 rfl (PIn.cons 14 rfl (PIn.cons 12 rfl (PIn.cons 14 rfl PIn.nil)))))) h149, ?_⟩⟩
                    have h150 := St.pickT (C := [_, _, _, _, _, _, _, _, _, _, _, _, _, _, _]) h149 [4, 5, 6, 7, 0, 1, 2, 3, 8, 9, 10, 11, 12, 13, 14] (by decide)
                    simp only [pick, List.filterMap_cons, List.filterMap_nil, List.getElem?_cons_zero, List.getElem?_cons_succ, List.cons_append, List.nil_append] at h150
                    obtain ⟨x_152, hr151, hR⟩ := hR
                    refine Plan.call (vs := [.pointer (some ⟨b0_27, 0, none⟩), AG [(16, fun q => VU .u8 (block2 q))]]) rfl FAesKeys.call17 rfl (aes_Cipher_Decrypt_ok  hr151 h150) ?_
                    rintro _ w153 ⟨rfl, h153⟩
                    refine ⟨_, rfl, .inl ⟨PIn.keep (PIn.cons 14 rfl (PIn.cons 14 rfl (PIn.cons 14 rfl (PIn.cons 14 rfl (PIn.cons 12 rfl (PIn.cons 14 rfl PIn.nil)))))) h153, ?_⟩⟩
                    by_cases hc154 : (eqB 16 x_148 x_152) = true
                    ·
                      replace hR := ifT hR hc154
                      refine Plan.eqArrV (b := true) FAesKeys.arrI27 rfl rfl rfl hc154 ?_
                      refine Plan.pickTb rfl rfl rfl ?_
                      refine Plan.move_bool rfl rfl ?_
                      refine Plan.move_ptr rfl rfl ?_
                      refine Plan.loadA1 h153 14 rfl rfl rfl FAesKeys.agg27 ?_
                      refine Plan.move_slice rfl rfl ?_
                      refine Plan.move_ptr rfl rfl ?_
                      refine Plan.loadA1 h153 14 rfl rfl rfl FAesKeys.agg27 ?_
                      refine Plan.move_slice rfl rfl ?_
                      have h155 := St.pickT (C := [_, _, _, _, _, _, _, _, _, _, _, _, _, _, _]) h153 [4, 5, 6, 7, 0, 1, 2, 3, 8, 9, 10, 11, 12, 13, 14] (by decide)
                      simp only [pick, List.filterMap_cons, List.filterMap_nil, List.getElem?_cons_zero, List.getElem?_cons_succ, List.cons_append, List.nil_append] at h155
                      obtain ⟨x_157, hr156, hR⟩ := hR
                      refine Plan.call (vs := [.pointer (some ⟨b0_64, 0, none⟩), AG [(16, fun q => VU .u8 (block2 q))], .slice ay0_126 x_125.length cy0_128]) rfl FAesKeys.call13 rfl (aes_Cipher_Stream_ok ((Bx.unapp (D := [_, _, _, _, _, _, _, _, _, _, _, _, _, _, _]) hf129_0).app [_, _, _, _, _, _, _, _, _, _, _]) hr156 h155) ?_
                      rintro _ w163 ⟨ay0_158, py0_159, ny0_160, cy0_161, Fy0_162, rfl, h163, hf163_0⟩
                      obtain rfl := hf163_0.hl
                      refine ⟨_, rfl, .inl ⟨PIn.keep (PIn.cons 15 rfl (PIn.cons 15 rfl (PIn.cons 15 rfl (PIn.cons 15 rfl (PIn.cons 15 rfl (PIn.cons 15 rfl (PIn.cons 13 rfl (PIn.cons 15 rfl PIn.nil)))))))) h163, ?_⟩⟩
                      have h164 := St.pickT (C := [_, _, _, _, _, _, _, _, _, _, _, _, _, _, _, _]) h163 [5, 6, 7, 8, 0, 1, 2, 3, 4, 9, 10, 11, 12, 13, 14, 15] (by decide)
                      simp only [pick, List.filterMap_cons, List.filterMap_nil, List.getElem?_cons_zero, List.getElem?_cons_succ, List.cons_append, List.nil_append] at h164
                      obtain ⟨x_166, hr165, hR⟩ := hR
                      refine Plan.call (vs := [.pointer (some ⟨b0_27, 0, none⟩), AG [(16, fun q => VU .u8 (block2 q))], .slice ay0_126 x_125.length cy0_128]) rfl FAesKeys.call13 rfl (aes_Cipher_Stream_ok ((Bx.unapp (D := [_, _, _, _, _, _, _, _, _, _, _, _, _, _, _]) hf129_0).app [_, _, _, _, _, _, _, _, _, _, _, _]) hr165 h164) ?_
                      rintro _ w172 ⟨ay0_167, py0_168, ny0_169, cy0_170, Fy0_171, rfl, h172, hf172_0⟩
                      obtain rfl := hf172_0.hl
                      refine ⟨_, rfl, .inl ⟨PIn.keep (PIn.cons 16 rfl (PIn.cons 16 rfl (PIn.cons 16 rfl (PIn.cons 16 rfl (PIn.cons 16 rfl (PIn.cons 16 rfl (PIn.cons 14 rfl (PIn.cons 16 rfl PIn.nil)))))))) h172, ?_⟩⟩
                      obtain ⟨x_174, hr173, hR⟩ := hR
                      refine Plan.call (vs := [.slice ay0_158 x_157.length cy0_161, .slice ay0_167 x_166.length cy0_170]) rfl FAesKeys.call14 rfl (lethelaw04_Eq_ok (hf163_0.bx 5 rfl) (hf172_0.bx 0 rfl) hr173 h172) ?_
                      rintro _ w175 ⟨rfl, h175⟩
                      refine ⟨_, rfl, .inl ⟨PIn.keep (PIn.cons 16 rfl (PIn.cons 16 rfl (PIn.cons 16 rfl (PIn.cons 16 rfl (PIn.cons 16 rfl (PIn.cons 16 rfl (PIn.cons 14 rfl (PIn.cons 16 rfl PIn.nil)))))))) h175, ?_⟩⟩
                      refine Plan.pickTb rfl rfl rfl ?_
                      refine Plan.assign_bool rfl rfl ?_
                      refine Plan.nil ?_
                      refine hK130 _ _ ?_; clear hK130
                      refine W.ret (finR_ret ?_)
                      have h176 := St.pickT (C := [_, _, _, _, _, _, _, _, _, _, _, _, _, _, _, _, _]) h175 [] (by decide)
                      simp only [pick, List.filterMap_cons, List.filterMap_nil, List.getElem?_cons_zero, List.getElem?_cons_succ, List.cons_append, List.nil_append] at h176
                      subst r
                      refine RetOk.mk (.tmp_bool rfl .nil) ?_
                      exact ⟨rfl, h176⟩
                    ·
                      replace hR := ifF hR hc154
                      refine Plan.eqArrV (b := false) FAesKeys.arrI27 rfl rfl rfl (Bool.eq_false_iff.2 hc154) ?_
                      refine Plan.pickTb rfl rfl rfl ?_
                      refine Plan.move_bool rfl rfl ?_
                      refine Plan.passed rfl ?_
                      refine Plan.passed rfl ?_
                      refine Plan.passed rfl ?_
                      refine Plan.passed rfl ?_
                      refine Plan.passed rfl ?_
                      refine Plan.passed rfl ?_
                      refine Plan.passed rfl ?_
                      refine Plan.passed rfl ?_
                      refine Plan.passed rfl ?_
                      refine Plan.pickFb rfl rfl rfl ?_
                      refine Plan.assign_bool rfl rfl ?_
                      refine Plan.nil ?_
                      refine hK130 _ _ ?_; clear hK130
                      refine W.ret (finR_ret ?_)
                      have h177 := St.pickT (C := [_, _, _, _, _, _, _, _, _, _, _, _, _, _, _]) h153 [] (by decide)
                      simp only [pick, List.filterMap_cons, List.filterMap_nil, List.getElem?_cons_zero, List.getElem?_cons_succ, List.cons_append, List.nil_append] at h177
                      subst r
                      refine RetOk.mk (.tmp_bool rfl .nil) ?_
                      exact ⟨rfl, h177⟩
                  ·
                    replace hR := ifF hR hc145
                    refine Plan.eqArrV (b := false) FAesKeys.arrI27 rfl rfl rfl (Bool.eq_false_iff.2 hc145) ?_
                    refine Plan.pickTb rfl rfl rfl ?_
                    refine Plan.move_bool rfl rfl ?_
                    refine Plan.passed rfl ?_
                    refine Plan.passed rfl ?_
                    refine Plan.passed rfl ?_
                    refine Plan.passed rfl ?_
                    refine Plan.passed rfl ?_
                    refine Plan.passed rfl ?_
                    refine Plan.passed rfl ?_
                    refine Plan.pickFb rfl rfl rfl ?_
                    refine Plan.move_bool rfl rfl ?_
                    refine Plan.passed rfl ?_
                    refine Plan.passed rfl ?_
                    refine Plan.passed rfl ?_
                    refine Plan.passed rfl ?_
                    refine Plan.passed rfl ?_
                    refine Plan.passed rfl ?_
                    refine Plan.passed rfl ?_
                    refine Plan.passed rfl ?_
                    refine Plan.passed rfl ?_
                    refine Plan.pickFb rfl rfl rfl ?_
                    refine Plan.assign_bool rfl rfl ?_
                    refine Plan.nil ?_
                    refine hK130 _ _ ?_; clear hK130
                    refine W.ret (finR_ret ?_)
                    have h178 := St.pickT (C := [_, _, _, _, _, _, _, _, _, _, _, _, _, _, _]) h144 [] (by decide)
                    simp only [pick, List.filterMap_cons, List.filterMap_nil, List.getElem?_cons_zero, List.getElem?_cons_succ, List.cons_append, List.nil_append] at h178
                    subst r
                    refine RetOk.mk (.tmp_bool rfl .nil) ?_
                    exact ⟨rfl, h178⟩
                ·
                  replace hR := ifF hR hc136
                  refine Plan.eqArrV (b := false) FAesKeys.arrI27 rfl rfl rfl (Bool.eq_false_iff.2 hc136) ?_
                  refine Plan.move_bool rfl rfl ?_
                  refine Plan.passed rfl ?_
                  refine Plan.passed rfl ?_
                  refine Plan.passed rfl ?_
                  refine Plan.passed rfl ?_
                  refine Plan.passed rfl ?_
                  refine Plan.passed rfl ?_
                  refine Plan.passed rfl ?_
                  refine Plan.pickFb rfl rfl rfl ?_
                  refine Plan.move_bool rfl rfl ?_
                  refine Plan.passed rfl ?_
                  refine Plan.passed rfl ?_
                  refine Plan.passed rfl ?_
                  refine Plan.passed rfl ?_
                  refine Plan.passed rfl ?_
                  refine Plan.passed rfl ?_
                  refine Plan.passed rfl ?_
                  refine Plan.pickFb rfl rfl rfl ?_
                  refine Plan.move_bool rfl rfl ?_
                  refine Plan.passed rfl ?_
                  refine Plan.passed rfl ?_
                  refine Plan.passed rfl ?_
                  refine Plan.passed rfl ?_
                  refine Plan.passed rfl ?_
                  refine Plan.passed rfl ?_
                  refine Plan.passed rfl ?_
                  refine Plan.passed rfl ?_
                  refine Plan.passed rfl ?_
                  refine Plan.pickFb rfl rfl rfl ?_
                  refine Plan.assign_bool rfl rfl ?_
                  refine Plan.nil ?_
                  refine hK130 _ _ ?_; clear hK130
                  refine W.ret (finR_ret ?_)
                  have h179 := St.pickT (C := [_, _, _, _, _, _, _, _, _, _, _, _, _, _, _]) h135 [] (by decide)
                  simp only [pick, List.filterMap_cons, List.filterMap_nil, List.getElem?_cons_zero, List.getElem?_cons_succ, List.cons_append, List.nil_append] at h179
                  subst r
                  refine RetOk.mk (.tmp_bool rfl .nil) ?_
                  exact ⟨rfl, h179⟩

end Go.Proofs.Ythjkmhdgenmnoaa
