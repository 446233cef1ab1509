/-
  WALKS of the package's functions, printed by this session's own program (auto.py).
-/
import Derived.Test.YthjkmhdgenmnoaaProg
import Derived.Test.YthjkmhdgenmnoaaLx3
import Derived.Test.YthjkmhdgenmnoaaRAesField
import Derived.Test.YthjkmhdgenmnoaaWAes
namespace Go.Proofs.Ythjkmhdgenmnoaa
set_option linter.unusedSimpArgs false
set_option linter.unusedVariables false
set_option linter.unusedSectionVars false
open Go Go.LW
theorem FAesField.call9 : callB Try.prog 9 = true := by kernel_rfl
theorem FAesField.u5 : Try.prog.underlying 5 = some (.int .u8) := by kernel_rfl
theorem FAesField.some3 : (Try.prog.underlying 3).isSome = true := by kernel_rfl
theorem FAesField.bool4 : boolB Try.prog 4 = true := by kernel_rfl
theorem FAesField.u3 : Try.prog.underlying 3 = some (.int .i64) := by kernel_rfl
theorem FAesField.some5 : (Try.prog.underlying 5).isSome = true := by kernel_rfl
theorem FAesField.call10 : callB Try.prog 10 = true := by kernel_rfl

set_option maxRecDepth 8000 in
set_option maxHeartbeats 1000000 in
theorem lethelaw04_AesField_ok {B : Nat} {w0 w : World} {L : List Rg} {a1 : BitVec 8} {b2 : BitVec 8} {c3 : BitVec 8} {r : Bool} (hR : lethelaw04_AesField a1 b2 c3 r) (HST : St B w0 (L) w) :
    Calls Try.prog 3 #[VU .u8 a1, VU .u8 b2, VU .u8 c3] w fun e w' => e = .returned (.bool r) ∧ St B w0 (L) w' := by
  refine W.enter 122 Try.func3 rfl rfl rfl ?_
  unfold lethelaw04_AesField at hR
  refine W.seq_k fun K4 hK4 => ?_
  refine W.regionT [(0, true)] (by kernel_rfl) ?_
  refine Plan.assign_bool rfl rfl ?_
  refine Plan.nil ?_
  refine hK4 _ _ ?_; clear hK4
  refine W.seq_k fun K5 hK5 => ?_
  refine W.seq_k fun K40 hK40 => ?_
  refine W.regionT [(0, true), (1, true), (2, false), (3, true), (4, true), (5, false), (6, true), (7, true), (8, true), (9, true), (10, true), (11, false), (12, false), (13, true), (14, true), (15, false), (16, true), (17, false), (18, true), (19, true), (20, true), (21, true), (22, true), (23, true), (24, true), (25, false), (26, true), (27, true), (28, false), (29, true), (30, true), (31, false), (32, true), (33, true), (34, true)] (by kernel_rfl) ?_
  refine Plan.move_int rfl rfl ?_
  refine Plan.move_int rfl rfl ?_
  obtain ⟨x_42, hr41, hR⟩ := hR
  refine Plan.call (vs := [VU .u8 a1, VU .u8 b2]) rfl FAesField.call9 rfl (aes_Mul_ok  hr41 HST) ?_
  rintro _ w43 ⟨rfl, h43⟩
  refine ⟨_, rfl, .inl ⟨PIn.keep PIn.nil h43, ?_⟩⟩
  refine Plan.move_int rfl rfl ?_
  refine Plan.move_int rfl rfl ?_
  obtain ⟨x_45, hr44, hR⟩ := hR
  refine Plan.call (vs := [VU .u8 b2, VU .u8 a1]) rfl FAesField.call9 rfl (aes_Mul_ok  hr44 h43) ?_
  rintro _ w46 ⟨rfl, h46⟩
  refine ⟨_, rfl, .inl ⟨PIn.keep PIn.nil h46, ?_⟩⟩
  by_cases hc47 : x_42 ≠ x_45
  ·
    replace hR := ifT hR hc47
    refine Plan.cmpV (a := (x_42.toNat : Int)) (b := (x_45.toNat : Int)) (p := x_42 ≠ x_45) (v := true) rfl rfl rfl rfl icmp_neU (decide_eq_true hc47) ?_
    refine Plan.move_bool rfl rfl ?_
    refine Plan.passed rfl ?_
    refine Plan.passed rfl ?_
    refine Plan.passed rfl ?_
    refine Plan.passed rfl ?_
    refine Plan.passed rfl ?_
    refine Plan.passed rfl ?_
    refine Plan.passed rfl ?_
    refine Plan.passed rfl ?_
    refine Plan.passed rfl ?_
    refine Plan.passed rfl ?_
    refine Plan.passed rfl ?_
    refine Plan.pickTb rfl rfl rfl ?_
    refine Plan.move_bool rfl rfl ?_
    refine Plan.passed rfl ?_
    refine Plan.passed rfl ?_
    refine Plan.passed rfl ?_
    refine Plan.passed rfl ?_
    refine Plan.passed rfl ?_
    refine Plan.passed rfl ?_
    refine Plan.passed rfl ?_
    refine Plan.passed rfl ?_
    refine Plan.passed rfl ?_
    refine Plan.passed rfl ?_
    refine Plan.passed rfl ?_
    refine Plan.passed rfl ?_
    refine Plan.passed rfl ?_
    refine Plan.pickTb rfl rfl rfl ?_
    refine Plan.nil ?_
    refine hK40 _ _ ?_; clear hK40
    refine W.condT rfl ?_
    refine W.seq_k fun K48 hK48 => ?_
    refine W.regionT [(0, true)] (by kernel_rfl) ?_
    refine Plan.assign_bool rfl rfl ?_
    refine Plan.nil ?_
    refine hK48 _ _ ?_; clear hK48
    refine W.ret (thenR_ret (finR_ret ?_))
    subst r
    refine RetOk.mk (.tmp_bool rfl .nil) ?_
    exact ⟨rfl, h46⟩
  ·
    replace hR := ifF hR hc47
    refine Plan.cmpV (a := (x_42.toNat : Int)) (b := (x_45.toNat : Int)) (p := x_42 ≠ x_45) (v := false) rfl rfl rfl rfl icmp_neU (decide_eq_false hc47) ?_
    refine Plan.move_bool rfl rfl ?_
    refine Plan.move_int rfl rfl ?_
    refine Plan.move_int rfl rfl ?_
    refine Plan.move_int rfl rfl ?_
    obtain ⟨x_50, hr49, hR⟩ := hR
    refine Plan.call (vs := [VU .u8 b2, VU .u8 c3]) rfl FAesField.call9 rfl (aes_Mul_ok  hr49 h46) ?_
    rintro _ w51 ⟨rfl, h51⟩
    refine ⟨_, rfl, .inl ⟨PIn.keep PIn.nil h51, ?_⟩⟩
    obtain ⟨x_53, hr52, hR⟩ := hR
    refine Plan.call (vs := [VU .u8 a1, VU .u8 x_50]) rfl FAesField.call9 rfl (aes_Mul_ok  hr52 h51) ?_
    rintro _ w54 ⟨rfl, h54⟩
    refine ⟨_, rfl, .inl ⟨PIn.keep PIn.nil h54, ?_⟩⟩
    refine Plan.move_int rfl rfl ?_
    refine Plan.move_int rfl rfl ?_
    obtain ⟨x_56, hr55, hR⟩ := hR
    refine Plan.call (vs := [VU .u8 a1, VU .u8 b2]) rfl FAesField.call9 rfl (aes_Mul_ok  hr55 h54) ?_
    rintro _ w57 ⟨rfl, h57⟩
    refine ⟨_, rfl, .inl ⟨PIn.keep PIn.nil h57, ?_⟩⟩
    refine Plan.move_int rfl rfl ?_
    obtain ⟨x_59, hr58, hR⟩ := hR
    refine Plan.call (vs := [VU .u8 x_56, VU .u8 c3]) rfl FAesField.call9 rfl (aes_Mul_ok  hr58 h57) ?_
    rintro _ w60 ⟨rfl, h60⟩
    refine ⟨_, rfl, .inl ⟨PIn.keep PIn.nil h60, ?_⟩⟩
    by_cases hc61 : x_53 ≠ x_59
    ·
      replace hR := ifT hR hc61
      refine Plan.cmpV (a := (x_53.toNat : Int)) (b := (x_59.toNat : Int)) (p := x_53 ≠ x_59) (v := true) rfl rfl rfl rfl icmp_neU (decide_eq_true hc61) ?_
      refine Plan.pickFb rfl rfl rfl ?_
      refine Plan.move_bool rfl rfl ?_
      refine Plan.passed rfl ?_
      refine Plan.passed rfl ?_
      refine Plan.passed rfl ?_
      refine Plan.passed rfl ?_
      refine Plan.passed rfl ?_
      refine Plan.passed rfl ?_
      refine Plan.passed rfl ?_
      refine Plan.passed rfl ?_
      refine Plan.passed rfl ?_
      refine Plan.passed rfl ?_
      refine Plan.passed rfl ?_
      refine Plan.passed rfl ?_
      refine Plan.passed rfl ?_
      refine Plan.pickTb rfl rfl rfl ?_
      refine Plan.nil ?_
      refine hK40 _ _ ?_; clear hK40
      refine W.condT rfl ?_
      refine W.seq_k fun K62 hK62 => ?_
      refine W.regionT [(0, true)] (by kernel_rfl) ?_
      refine Plan.assign_bool rfl rfl ?_
      refine Plan.nil ?_
      refine hK62 _ _ ?_; clear hK62
      refine W.ret (thenR_ret (finR_ret ?_))
      subst r
      refine RetOk.mk (.tmp_bool rfl .nil) ?_
      exact ⟨rfl, h60⟩
    ·
      replace hR := ifF hR hc61
      refine Plan.cmpV (a := (x_53.toNat : Int)) (b := (x_59.toNat : Int)) (p := x_53 ≠ x_59) (v := false) rfl rfl rfl rfl icmp_neU (decide_eq_false hc61) ?_
      refine Plan.pickFb rfl rfl rfl ?_
      refine Plan.move_bool rfl rfl ?_
      refine Plan.move_int rfl rfl ?_
      refine Plan.move_int rfl rfl ?_
      refine Plan.move_int rfl rfl ?_
      refine Plan.xorU .u8 (X := b2) (Y := c3) rfl rfl rfl ?_
      obtain ⟨x_64, hr63, hR⟩ := hR
      refine Plan.call (vs := [VU .u8 a1, VU .u8 (b2 ^^^ c3)]) rfl FAesField.call9 rfl (aes_Mul_ok  hr63 h60) ?_
      rintro _ w65 ⟨rfl, h65⟩
      refine ⟨_, rfl, .inl ⟨PIn.keep PIn.nil h65, ?_⟩⟩
      refine Plan.move_int rfl rfl ?_
      refine Plan.move_int rfl rfl ?_
      obtain ⟨x_67, hr66, hR⟩ := hR
      refine Plan.call (vs := [VU .u8 a1, VU .u8 b2]) rfl FAesField.call9 rfl (aes_Mul_ok  hr66 h65) ?_
      rintro _ w68 ⟨rfl, h68⟩
      refine ⟨_, rfl, .inl ⟨PIn.keep PIn.nil h68, ?_⟩⟩
      refine Plan.move_int rfl rfl ?_
      refine Plan.move_int rfl rfl ?_
      obtain ⟨x_70, hr69, hR⟩ := hR
      refine Plan.call (vs := [VU .u8 a1, VU .u8 c3]) rfl FAesField.call9 rfl (aes_Mul_ok  hr69 h68) ?_
      rintro _ w71 ⟨rfl, h71⟩
      refine ⟨_, rfl, .inl ⟨PIn.keep PIn.nil h71, ?_⟩⟩
      refine Plan.xorU .u8 (X := x_67) (Y := x_70) rfl rfl rfl ?_
      refine Plan.cmpP (a := (x_64.toNat : Int)) (b := ((x_67 ^^^ x_70).toNat : Int)) (p := x_64 ≠ (x_67 ^^^ x_70)) rfl rfl rfl rfl icmp_neU ?_
      refine Plan.pickFb rfl rfl rfl ?_
      refine Plan.nil ?_
      refine hK40 _ _ ?_; clear hK40
      by_cases hc72 : x_64 ≠ (x_67 ^^^ x_70)
      ·
        replace hR := ifT hR hc72
        refine W.condT (congrArg Value.bool (decide_eq_true hc72)) ?_
        refine W.seq_k fun K73 hK73 => ?_
        refine W.regionT [(0, true)] (by kernel_rfl) ?_
        refine Plan.assign_bool rfl rfl ?_
        refine Plan.nil ?_
        refine hK73 _ _ ?_; clear hK73
        refine W.ret (thenR_ret (finR_ret ?_))
        subst r
        refine RetOk.mk (.tmp_bool rfl .nil) ?_
        exact ⟨rfl, h71⟩
      ·
        replace hR := ifF hR hc72
        refine W.condF (congrArg Value.bool (decide_eq_false hc72)) ?_
        refine W.skip ?_
        refine hK5 _ _ ?_; clear hK5
        refine W.seq_k fun K74 hK74 => ?_
        refine W.seq_k fun K91 hK91 => ?_
        refine W.regionT [(0, true), (1, false), (2, true), (3, true), (4, true), (5, false), (6, true), (7, true), (8, true), (9, false), (10, true), (11, true)] (by kernel_rfl) ?_
        refine Plan.move_int rfl rfl ?_
        obtain ⟨x_93, hr92, hR⟩ := hR
        refine Plan.call (vs := [VU .u8 a1, VU .u8 (1#8)]) rfl FAesField.call9 rfl (aes_Mul_ok  hr92 h71) ?_
        rintro _ w94 ⟨rfl, h94⟩
        refine ⟨_, rfl, .inl ⟨PIn.keep PIn.nil h94, ?_⟩⟩
        refine Plan.move_int rfl rfl ?_
        by_cases hc95 : x_93 ≠ a1
        ·
          replace hR := ifT hR hc95
          refine Plan.cmpV (a := (x_93.toNat : Int)) (b := (a1.toNat : Int)) (p := x_93 ≠ a1) (v := true) rfl rfl rfl rfl icmp_neU (decide_eq_true hc95) ?_
          refine Plan.move_bool rfl rfl ?_
          refine Plan.passed rfl ?_
          refine Plan.passed rfl ?_
          refine Plan.pickTb rfl rfl rfl ?_
          refine Plan.move_bool rfl rfl ?_
          refine Plan.passed rfl ?_
          refine Plan.passed rfl ?_
          refine Plan.pickTb rfl rfl rfl ?_
          refine Plan.nil ?_
          refine hK91 _ _ ?_; clear hK91
          refine W.condT rfl ?_
          refine W.seq_k fun K96 hK96 => ?_
          refine W.regionT [(0, true)] (by kernel_rfl) ?_
          refine Plan.assign_bool rfl rfl ?_
          refine Plan.nil ?_
          refine hK96 _ _ ?_; clear hK96
          refine W.ret (thenR_ret (finR_ret ?_))
          subst r
          refine RetOk.mk (.tmp_bool rfl .nil) ?_
          exact ⟨rfl, h94⟩
        ·
          replace hR := ifF hR hc95
          refine Plan.cmpV (a := (x_93.toNat : Int)) (b := (a1.toNat : Int)) (p := x_93 ≠ a1) (v := false) rfl rfl rfl rfl icmp_neU (decide_eq_false hc95) ?_
          refine Plan.move_bool rfl rfl ?_
          obtain ⟨x_98, hr97, hR⟩ := hR
          refine Plan.call (vs := [VU .u8 (128#8), VU .u8 (2#8)]) rfl FAesField.call9 rfl (aes_Mul_ok  hr97 h94) ?_
          rintro _ w99 ⟨rfl, h99⟩
          refine ⟨_, rfl, .inl ⟨PIn.keep PIn.nil h99, ?_⟩⟩
          by_cases hc100 : x_98 ≠ 27#8
          ·
            replace hR := ifT hR hc100
            refine Plan.cmpV (a := (x_98.toNat : Int)) (b := ((27#8).toNat : Int)) (p := x_98 ≠ 27#8) (v := true) rfl rfl rfl rfl icmp_neU (decide_eq_true hc100) ?_
            refine Plan.pickFb rfl rfl rfl ?_
            refine Plan.move_bool rfl rfl ?_
            refine Plan.passed rfl ?_
            refine Plan.passed rfl ?_
            refine Plan.pickTb rfl rfl rfl ?_
            refine Plan.nil ?_
            refine hK91 _ _ ?_; clear hK91
            refine W.condT rfl ?_
            refine W.seq_k fun K101 hK101 => ?_
            refine W.regionT [(0, true)] (by kernel_rfl) ?_
            refine Plan.assign_bool rfl rfl ?_
            refine Plan.nil ?_
            refine hK101 _ _ ?_; clear hK101
            refine W.ret (thenR_ret (finR_ret ?_))
            subst r
            refine RetOk.mk (.tmp_bool rfl .nil) ?_
            exact ⟨rfl, h99⟩
          ·
            replace hR := ifF hR hc100
            refine Plan.cmpV (a := (x_98.toNat : Int)) (b := ((27#8).toNat : Int)) (p := x_98 ≠ 27#8) (v := false) rfl rfl rfl rfl icmp_neU (decide_eq_false hc100) ?_
            refine Plan.pickFb rfl rfl rfl ?_
            refine Plan.move_bool rfl rfl ?_
            obtain ⟨x_103, hr102, hR⟩ := hR
            refine Plan.call (vs := [VU .u8 (2#8), VU .u8 (3#8)]) rfl FAesField.call9 rfl (aes_Mul_ok  hr102 h99) ?_
            rintro _ w104 ⟨rfl, h104⟩
            refine ⟨_, rfl, .inl ⟨PIn.keep PIn.nil h104, ?_⟩⟩
            refine Plan.cmpP (a := (x_103.toNat : Int)) (b := ((6#8).toNat : Int)) (p := x_103 ≠ 6#8) rfl rfl rfl rfl icmp_neU ?_
            refine Plan.pickFb rfl rfl rfl ?_
            refine Plan.nil ?_
            refine hK91 _ _ ?_; clear hK91
            by_cases hc105 : x_103 ≠ 6#8
            ·
              replace hR := ifT hR hc105
              refine W.condT (congrArg Value.bool (decide_eq_true hc105)) ?_
              refine W.seq_k fun K106 hK106 => ?_
              refine W.regionT [(0, true)] (by kernel_rfl) ?_
              refine Plan.assign_bool rfl rfl ?_
              refine Plan.nil ?_
              refine hK106 _ _ ?_; clear hK106
              refine W.ret (thenR_ret (finR_ret ?_))
              subst r
              refine RetOk.mk (.tmp_bool rfl .nil) ?_
              exact ⟨rfl, h104⟩
            ·
              replace hR := ifF hR hc105
              refine W.condF (congrArg Value.bool (decide_eq_false hc105)) ?_
              refine W.skip ?_
              refine hK74 _ _ ?_; clear hK74
              refine W.seq_k fun K107 hK107 => ?_
              refine W.regionT [(0, true), (1, true)] (by kernel_rfl) ?_
              refine Plan.assign_int rfl rfl ?_
              refine Plan.assign_int rfl rfl ?_
              refine Plan.nil ?_
              refine hK107 _ _ ?_; clear hK107
              refine W.seq_k fun K108 hK108 => ?_
              refine W.seq_k fun K109 hK109 => ?_
              refine W.regionT [(0, true)] (by kernel_rfl) ?_
              refine Plan.assign_int rfl rfl ?_
              refine Plan.nil ?_
              refine hK109 _ _ ?_; clear hK109
              obtain ⟨inverse137, many138, hI139, hR0139⟩ := hR
              refine W.cutN (fun e w => ∃ y_inverse137 : BitVec 8, ∃ y_many138 : Nat, (inverse137, many138) = (y_inverse137, y_many138) ∧ EnvHas e [(0, VU .u8 a1), (7, VU .u8 y_inverse137), (8, VN y_many138)] ∧ St B w0 (L) w) ?_ ?_
              ·
                refine W.block ?_
                refine W.iter hI139 (fun (s139 : ((BitVec 8) × Nat × Nat)) e w => EnvHas e [(0, VU .u8 a1), (7, VU .u8 s139.1), (8, VN s139.2.1), (9, VN s139.2.2)] ∧ St B w0 (L) w) ⟨(EnvHas.cons rfl (EnvHas.cons rfl (EnvHas.cons rfl (EnvHas.cons rfl EnvHas.nil)))), h104⟩ ?_
                rintro ⟨inverse134, many135, i_136⟩ o139 hR hx139 ev140 wl140 ⟨he140, h140⟩
                obtain ⟨ev140, rfl⟩ := he140.open
                unfold lethelaw04_AesField_l0 at hR
                refine W.seq_k fun K141 hK141 => ?_
                refine W.seq_k fun K142 hK142 => ?_
                refine W.regionT [(0, true), (1, true)] (by kernel_rfl) ?_
                refine Plan.move_int rfl rfl ?_
                refine Plan.cmpP (a := (((i_136 : Nat) : Int) : Int)) (b := (256 : Int)) (p := i_136 < 256) rfl rfl rfl rfl icmp_ltN ?_
                refine Plan.nil ?_
                refine hK142 _ _ ?_; clear hK142
                by_cases hc143 : i_136 < 256
                ·
                  replace hR := ifT hR hc143
                  refine W.condT (congrArg Value.bool (decide_eq_true hc143)) ?_
                  refine W.skip ?_
                  refine hK141 _ _ ?_; clear hK141
                  refine W.seq_k fun K144 hK144 => ?_
                  refine W.block ?_
                  refine W.seq_k fun K145 hK145 => ?_
                  refine W.regionT [(0, true), (1, true), (2, true), (3, false), (4, true)] (by kernel_rfl) ?_
                  refine Plan.move_int rfl rfl ?_
                  refine Plan.move_int rfl rfl ?_
                  refine Plan.convNU .u8 (a := i_136) FAesField.u5 FAesField.some3 rfl rfl ?_
                  obtain ⟨x_147, hr146, hR⟩ := hR
                  refine Plan.call (vs := [VU .u8 a1, VU .u8 (BitVec.ofNat 8 i_136)]) rfl FAesField.call9 rfl (aes_Mul_ok  hr146 h140) ?_
                  rintro _ w148 ⟨rfl, h148⟩
                  refine ⟨_, rfl, .inl ⟨PIn.keep PIn.nil h148, ?_⟩⟩
                  refine Plan.cmpP (a := (x_147.toNat : Int)) (b := ((1#8).toNat : Int)) (p := x_147 = 1#8) rfl rfl rfl rfl icmp_eqU ?_
                  refine Plan.nil ?_
                  refine hK145 _ _ ?_; clear hK145
                  by_cases hc149 : x_147 = 1#8
                  ·
                    replace hR := ifT hR hc149
                    refine W.condT (congrArg Value.bool (decide_eq_true hc149)) ?_
                    refine W.seq_k fun K150 hK150 => ?_
                    refine W.regionT [(0, true), (1, true), (2, true)] (by kernel_rfl) ?_
                    refine Plan.move_int rfl rfl ?_
                    refine Plan.convNU .u8 (a := i_136) FAesField.u5 FAesField.some3 rfl rfl ?_
                    refine Plan.assign_int rfl rfl ?_
                    refine Plan.nil ?_
                    refine hK150 _ _ ?_; clear hK150
                    refine W.regionT [(0, true), (1, true), (2, true)] (by kernel_rfl) ?_
                    refine Plan.move_int rfl rfl ?_
                    obtain ⟨hc151, hR⟩ := hR
                    refine Plan.addN (a := many135) (b := 1) rfl rfl rfl (by omega) ?_
                    refine Plan.assign_int rfl rfl ?_
                    refine Plan.nil ?_
                    refine blockR_norm ?_
                    refine hK144 _ _ ?_; clear hK144
                    refine W.regionT [(0, true), (1, true), (2, true)] (by kernel_rfl) ?_
                    refine Plan.move_int rfl rfl ?_
                    refine Plan.addN (a := i_136) (b := 1) rfl rfl rfl (by omega) ?_
                    refine Plan.assign_int rfl rfl ?_
                    refine Plan.nil ?_
                    exact iterR_norm ⟨_, hR, (EnvHas.cons rfl (EnvHas.cons rfl (EnvHas.cons rfl (EnvHas.cons rfl EnvHas.nil)))), h148⟩
                  ·
                    replace hR := ifF hR hc149
                    refine W.condF (congrArg Value.bool (decide_eq_false hc149)) ?_
                    refine W.skip ?_
                    refine blockR_norm ?_
                    refine hK144 _ _ ?_; clear hK144
                    refine W.regionT [(0, true), (1, true), (2, true)] (by kernel_rfl) ?_
                    refine Plan.move_int rfl rfl ?_
                    refine Plan.addN (a := i_136) (b := 1) rfl rfl rfl (by omega) ?_
                    refine Plan.assign_int rfl rfl ?_
                    refine Plan.nil ?_
                    exact iterR_norm ⟨_, hR, (EnvHas.cons rfl (EnvHas.cons rfl (EnvHas.cons rfl (EnvHas.cons rfl EnvHas.nil)))), h148⟩
                ·
                  replace hR := ifF hR hc143
                  refine W.condF (congrArg Value.bool (decide_eq_false hc143)) ?_
                  refine W.exit (thenR_exit (iterR_exit (blockR_here ?_)))
                  exact ⟨inverse134, many135, (hx139 _ hR).symm, (EnvHas.cons rfl (EnvHas.cons rfl (EnvHas.cons rfl EnvHas.nil))), h140⟩
              ·
                rintro ev152 wl152 ⟨y_inverse137, y_many138, hy152, he152, h152⟩
                obtain ⟨ev152, rfl⟩ := he152.open
                cases hy152
                replace hR := hR0139; clear hR0139 hI139
                refine hK108 _ _ ?_; clear hK108
                refine W.seq_k fun K153 hK153 => ?_
                refine W.seq_k fun K159 hK159 => ?_
                refine W.regionT [(0, true), (1, true), (2, true), (3, true), (4, true), (5, true), (6, true), (7, true), (8, true)] (by kernel_rfl) ?_
                refine Plan.move_int rfl rfl ?_
                refine Plan.cmpP (a := (((many138 : Nat) : Int) : Int)) (b := (1 : Int)) (p := many138 = 1) rfl rfl rfl rfl icmp_eqN ?_
                refine Plan.move_int rfl rfl ?_
                refine Plan.cmpP (a := (a1.toNat : Int)) (b := ((0#8).toNat : Int)) (p := a1 ≠ 0#8) rfl rfl rfl rfl icmp_neU ?_
                by_cases hc160 : ((decide (many138 = 1)) != (decide (a1 ≠ 0#8))) = true
                ·
                  replace hR := ifT hR hc160
                  refine Plan.neBoolV (v := true) FAesField.bool4 rfl rfl rfl hc160 ?_
                  refine Plan.move_bool rfl rfl ?_
                  refine Plan.passed rfl ?_
                  refine Plan.passed rfl ?_
                  refine Plan.pickTb rfl rfl rfl ?_
                  refine Plan.nil ?_
                  refine hK159 _ _ ?_; clear hK159
                  refine W.condT rfl ?_
                  refine W.seq_k fun K161 hK161 => ?_
                  refine W.regionT [(0, true)] (by kernel_rfl) ?_
                  refine Plan.assign_bool rfl rfl ?_
                  refine Plan.nil ?_
                  refine hK161 _ _ ?_; clear hK161
                  refine W.ret (thenR_ret (finR_ret ?_))
                  subst r
                  refine RetOk.mk (.tmp_bool rfl .nil) ?_
                  exact ⟨rfl, h152⟩
                ·
                  replace hR := ifF hR hc160
                  refine Plan.neBoolV (v := false) FAesField.bool4 rfl rfl rfl (Bool.eq_false_iff.2 hc160) ?_
                  refine Plan.move_bool rfl rfl ?_
                  refine Plan.move_int rfl rfl ?_
                  refine Plan.cmpP (a := (((many138 : Nat) : Int) : Int)) (b := (1 : Int)) (p := 1 < many138) rfl rfl rfl rfl icmp_gtN ?_
                  refine Plan.pickFb rfl rfl rfl ?_
                  refine Plan.nil ?_
                  refine hK159 _ _ ?_; clear hK159
                  by_cases hc162 : 1 < many138
                  ·
                    replace hR := ifT hR hc162
                    refine W.condT (congrArg Value.bool (decide_eq_true hc162)) ?_
                    refine W.seq_k fun K163 hK163 => ?_
                    refine W.regionT [(0, true)] (by kernel_rfl) ?_
                    refine Plan.assign_bool rfl rfl ?_
                    refine Plan.nil ?_
                    refine hK163 _ _ ?_; clear hK163
                    refine W.ret (thenR_ret (finR_ret ?_))
                    subst r
                    refine RetOk.mk (.tmp_bool rfl .nil) ?_
                    exact ⟨rfl, h152⟩
                  ·
                    replace hR := ifF hR hc162
                    refine W.condF (congrArg Value.bool (decide_eq_false hc162)) ?_
                    refine W.skip ?_
                    refine hK153 _ _ ?_; clear hK153
                    refine W.seq_k fun K164 hK164 => ?_
                    refine W.regionT [(0, true)] (by kernel_rfl) ?_
                    refine Plan.assign_int rfl rfl ?_
                    refine Plan.nil ?_
                    refine hK164 _ _ ?_; clear hK164
                    refine W.seq_k fun K165 hK165 => ?_
                    refine W.seq_k fun K166 hK166 => ?_
                    refine W.regionT [(0, true)] (by kernel_rfl) ?_
                    refine Plan.assign_int rfl rfl ?_
                    refine Plan.nil ?_
                    refine hK166 _ _ ?_; clear hK166
                    obtain ⟨want247, hI248, hR0248⟩ := hR
                    refine W.cutN (fun e w => ∃ y_want247 : BitVec 8, want247 = y_want247 ∧ EnvHas e [(0, VU .u8 a1), (10, VU .u8 y_want247)] ∧ St B w0 (L) w) ?_ ?_
                    ·
                      refine W.block ?_
                      refine W.iter hI248 (fun (s248 : ((BitVec 8) × Nat)) e w => EnvHas e [(0, VU .u8 a1), (7, VU .u8 inverse137), (10, VU .u8 s248.1), (11, VN s248.2)] ∧ St B w0 (L) w) ⟨(EnvHas.cons rfl (EnvHas.cons rfl (EnvHas.cons rfl (EnvHas.cons rfl EnvHas.nil)))), h152⟩ ?_
                      rintro ⟨want245, bit246⟩ o248 hR hx248 ev249 wl249 ⟨he249, h249⟩
                      obtain ⟨ev249, rfl⟩ := he249.open
                      unfold lethelaw04_AesField_l1 at hR
                      refine W.seq_k fun K250 hK250 => ?_
                      refine W.seq_k fun K251 hK251 => ?_
                      refine W.regionT [(0, true), (1, true)] (by kernel_rfl) ?_
                      refine Plan.move_int rfl rfl ?_
                      refine Plan.cmpP (a := (((bit246 : Nat) : Int) : Int)) (b := (8 : Int)) (p := bit246 < 8) rfl rfl rfl rfl icmp_ltN ?_
                      refine Plan.nil ?_
                      refine hK251 _ _ ?_; clear hK251
                      by_cases hc252 : bit246 < 8
                      ·
                        replace hR := ifT hR hc252
                        refine W.condT (congrArg Value.bool (decide_eq_true hc252)) ?_
                        refine W.skip ?_
                        refine hK250 _ _ ?_; clear hK250
                        refine W.seq_k fun K253 hK253 => ?_
                        refine W.block ?_
                        refine W.seq_k fun K254 hK254 => ?_
                        refine W.regionT [(0, true), (1, true), (2, true)] (by kernel_rfl) ?_
                        refine Plan.move_int rfl rfl ?_
                        refine Plan.shrN (a := 99) (c := bit246) rfl rfl rfl (by omega) ?_
                        refine Plan.assign_int rfl rfl ?_
                        refine Plan.nil ?_
                        refine hK254 _ _ ?_; clear hK254
                        refine W.seq_k fun K255 hK255 => ?_
                        refine W.seq_k fun K256 hK256 => ?_
                        refine W.regionT [(0, true)] (by kernel_rfl) ?_
                        refine Plan.assign_int rfl rfl ?_
                        refine Plan.nil ?_
                        refine hK256 _ _ ?_; clear hK256
                        obtain ⟨v275, hI276, hR0276⟩ := hR
                        refine W.cutN (fun e w => ∃ y_v275 : Nat, v275 = y_v275 ∧ EnvHas e [(0, VU .u8 a1), (7, VU .u8 inverse137), (10, VU .u8 want245), (11, VN bit246), (12, VN y_v275)] ∧ St B w0 (L) w) ?_ ?_
                        ·
                          refine W.block ?_
                          refine W.iter hI276 (fun (s276 : (Nat × Nat)) e w => EnvHas e [(0, VU .u8 a1), (7, VU .u8 inverse137), (10, VU .u8 want245), (11, VN bit246), (12, VN s276.1), (13, VN s276.2)] ∧ St B w0 (L) w) ⟨(EnvHas.cons rfl (EnvHas.cons rfl (EnvHas.cons rfl (EnvHas.cons rfl (EnvHas.cons rfl (EnvHas.cons rfl EnvHas.nil)))))), h249⟩ ?_
                          rintro ⟨v273, turn274⟩ o276 hR hx276 ev277 wl277 ⟨he277, h277⟩
                          obtain ⟨ev277, rfl⟩ := he277.open
                          unfold lethelaw04_AesField_l2 at hR
                          refine W.seq_k fun K278 hK278 => ?_
                          refine W.seq_k fun K279 hK279 => ?_
                          refine W.regionT [(0, true), (1, true)] (by kernel_rfl) ?_
                          refine Plan.move_int rfl rfl ?_
                          refine Plan.cmpP (a := (((turn274 : Nat) : Int) : Int)) (b := (5 : Int)) (p := turn274 < 5) rfl rfl rfl rfl icmp_ltN ?_
                          refine Plan.nil ?_
                          refine hK279 _ _ ?_; clear hK279
                          by_cases hc280 : turn274 < 5
                          ·
                            replace hR := ifT hR hc280
                            refine W.condT (congrArg Value.bool (decide_eq_true hc280)) ?_
                            refine W.skip ?_
                            refine hK278 _ _ ?_; clear hK278
                            refine W.seq_k fun K281 hK281 => ?_
                            refine W.block ?_
                            refine W.seq_k fun K282 hK282 => ?_
                            refine W.regionT [(0, true), (1, true)] (by kernel_rfl) ?_
                            refine Plan.move_int rfl rfl ?_
                            refine Plan.cmpP (a := (((turn274 : Nat) : Int) : Int)) (b := (0 : Int)) (p := turn274 = 0) rfl rfl rfl rfl icmp_eqN ?_
                            refine Plan.nil ?_
                            refine hK282 _ _ ?_; clear hK282
                            by_cases hc283 : turn274 = 0
                            ·
                              replace hR := ifT hR hc283
                              refine W.condT (congrArg Value.bool (decide_eq_true hc283)) ?_
                              refine W.regionT [(0, true), (1, true), (2, true), (3, true), (4, true), (5, true), (6, true)] (by kernel_rfl) ?_
                              refine Plan.move_int rfl rfl ?_
                              refine Plan.move_int rfl rfl ?_
                              refine Plan.move_int rfl rfl ?_
                              refine Plan.shrU .u8 (X := inverse137) (c := bit246) rfl rfl rfl ?_
                              refine Plan.convN (a := (inverse137 >>> bit246).toNat) FAesField.u3 FAesField.some5 rfl rfl (Nat.lt_of_lt_of_le (inverse137 >>> bit246).isLt (by decide)) ?_
                              obtain ⟨hc284, hR⟩ := hR
                              refine Plan.xorN (a := v273) (b := (inverse137 >>> bit246).toNat) rfl rfl rfl (by omega) ?_
                              refine Plan.assign_int rfl rfl ?_
                              refine Plan.nil ?_
                              refine blockR_norm ?_
                              refine hK281 _ _ ?_; clear hK281
                              refine W.regionT [(0, true), (1, true), (2, true)] (by kernel_rfl) ?_
                              refine Plan.move_int rfl rfl ?_
                              refine Plan.addN (a := turn274) (b := 1) rfl rfl rfl (by omega) ?_
                              refine Plan.assign_int rfl rfl ?_
                              refine Plan.nil ?_
                              exact iterR_norm ⟨_, hR, (EnvHas.cons rfl (EnvHas.cons rfl (EnvHas.cons rfl (EnvHas.cons rfl (EnvHas.cons rfl (EnvHas.cons rfl EnvHas.nil)))))), h277⟩
                            ·
                              replace hR := ifF hR hc283
                              refine W.condF (congrArg Value.bool (decide_eq_false hc283)) ?_
                              refine W.regionT [(0, true), (1, true), (2, true), (3, true), (4, true), (5, true), (6, true), (7, true), (8, true), (9, true), (10, true)] (by kernel_rfl) ?_
                              refine Plan.move_int rfl rfl ?_
                              refine Plan.move_int rfl rfl ?_
                              refine Plan.move_int rfl rfl ?_
                              refine Plan.move_int rfl rfl ?_
                              refine Plan.addN (a := bit246) (b := turn274) rfl rfl rfl (by omega) ?_
                              refine Plan.addN (a := (bit246 + turn274)) (b := 3) rfl rfl rfl (by omega) ?_
                              refine Plan.remN (a := ((bit246 + turn274) + 3)) (b := 8) rfl rfl rfl (by omega) ?_
                              refine Plan.shrU .u8 (X := inverse137) (c := (((bit246 + turn274) + 3) % 8)) rfl rfl rfl ?_
                              refine Plan.convN (a := (inverse137 >>> (((bit246 + turn274) + 3) % 8)).toNat) FAesField.u3 FAesField.some5 rfl rfl (Nat.lt_of_lt_of_le (inverse137 >>> (((bit246 + turn274) + 3) % 8)).isLt (by decide)) ?_
                              obtain ⟨hc285, hR⟩ := hR
                              refine Plan.xorN (a := v273) (b := (inverse137 >>> (((bit246 + turn274) + 3) % 8)).toNat) rfl rfl rfl (by omega) ?_
                              refine Plan.assign_int rfl rfl ?_
                              refine Plan.nil ?_
                              refine blockR_norm ?_
                              refine hK281 _ _ ?_; clear hK281
                              refine W.regionT [(0, true), (1, true), (2, true)] (by kernel_rfl) ?_
                              refine Plan.move_int rfl rfl ?_
                              refine Plan.addN (a := turn274) (b := 1) rfl rfl rfl (by omega) ?_
                              refine Plan.assign_int rfl rfl ?_
                              refine Plan.nil ?_
                              exact iterR_norm ⟨_, hR, (EnvHas.cons rfl (EnvHas.cons rfl (EnvHas.cons rfl (EnvHas.cons rfl (EnvHas.cons rfl (EnvHas.cons rfl EnvHas.nil)))))), h277⟩
                          ·
                            replace hR := ifF hR hc280
                            refine W.condF (congrArg Value.bool (decide_eq_false hc280)) ?_
                            refine W.exit (thenR_exit (iterR_exit (blockR_here ?_)))
                            exact ⟨v273, (hx276 _ hR).symm, (EnvHas.cons rfl (EnvHas.cons rfl (EnvHas.cons rfl (EnvHas.cons rfl (EnvHas.cons rfl EnvHas.nil))))), h277⟩
                        ·
                          rintro ev286 wl286 ⟨y_v275, hy286, he286, h286⟩
                          obtain ⟨ev286, rfl⟩ := he286.open
                          subst hy286
                          replace hR := hR0276; clear hR0276 hI276
                          refine hK255 _ _ ?_; clear hK255
                          refine W.regionT [(0, true), (1, true), (2, true), (3, true), (4, true), (5, true), (6, true), (7, true)] (by kernel_rfl) ?_
                          refine Plan.move_int rfl rfl ?_
                          refine Plan.move_int rfl rfl ?_
                          obtain ⟨hc287, hR⟩ := hR
                          refine Plan.andN (a := v275) (b := 1) rfl rfl rfl (by omega) ?_
                          refine Plan.convNU .u8 (a := (v275 &&& 1)) FAesField.u5 FAesField.some3 rfl rfl ?_
                          refine Plan.move_int rfl rfl ?_
                          refine Plan.shlU .u8 (X := (BitVec.ofNat 8 (v275 &&& 1))) (c := bit246) rfl rfl rfl ?_
                          refine Plan.orU .u8 (X := want245) (Y := ((BitVec.ofNat 8 (v275 &&& 1)) <<< bit246)) rfl rfl rfl ?_
                          refine Plan.assign_int rfl rfl ?_
                          refine Plan.nil ?_
                          refine blockR_norm ?_
                          refine hK253 _ _ ?_; clear hK253
                          refine W.regionT [(0, true), (1, true), (2, true)] (by kernel_rfl) ?_
                          refine Plan.move_int rfl rfl ?_
                          refine Plan.addN (a := bit246) (b := 1) rfl rfl rfl (by omega) ?_
                          refine Plan.assign_int rfl rfl ?_
                          refine Plan.nil ?_
                          exact iterR_norm ⟨_, hR, (EnvHas.cons rfl (EnvHas.cons rfl (EnvHas.cons rfl (EnvHas.cons rfl EnvHas.nil)))), h286⟩
                      ·
                        replace hR := ifF hR hc252
                        refine W.condF (congrArg Value.bool (decide_eq_false hc252)) ?_
                        refine W.exit (thenR_exit (iterR_exit (blockR_here ?_)))
                        exact ⟨want245, (hx248 _ hR).symm, (EnvHas.cons rfl (EnvHas.cons rfl EnvHas.nil)), h249⟩
                    ·
                      rintro ev288 wl288 ⟨y_want247, hy288, he288, h288⟩
                      obtain ⟨ev288, rfl⟩ := he288.open
                      subst hy288
                      replace hR := hR0248; clear hR0248 hI248
                      refine hK165 _ _ ?_; clear hK165
                      refine W.seq_k fun K289 hK289 => ?_
                      refine W.regionT [(0, true), (1, false), (2, true), (3, true), (4, true)] (by kernel_rfl) ?_
                      refine Plan.move_int rfl rfl ?_
                      obtain ⟨x_291, hr290, hR⟩ := hR
                      refine Plan.call (vs := [VU .u8 a1]) rfl FAesField.call10 rfl (aes_Box_ok  hr290 h288) ?_
                      rintro _ w292 ⟨rfl, h292⟩
                      refine ⟨_, rfl, .inl ⟨PIn.keep PIn.nil h292, ?_⟩⟩
                      refine Plan.move_int rfl rfl ?_
                      refine Plan.cmpP (a := (x_291.toNat : Int)) (b := (want247.toNat : Int)) (p := x_291 = want247) rfl rfl rfl rfl icmp_eqU ?_
                      refine Plan.assign_bool rfl rfl ?_
                      refine Plan.nil ?_
                      refine hK289 _ _ ?_; clear hK289
                      refine W.ret (finR_ret ?_)
                      subst r
                      refine RetOk.mk (.tmp_bool rfl .nil) ?_
                      exact ⟨rfl, h292⟩

end Go.Proofs.Ythjkmhdgenmnoaa
