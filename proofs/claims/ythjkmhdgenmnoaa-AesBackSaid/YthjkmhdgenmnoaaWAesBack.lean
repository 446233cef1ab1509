/-
  WALKS of the package's functions, printed by this session's own program (auto.py).
-/
import Derived.Test.YthjkmhdgenmnoaaProg
import Derived.Test.YthjkmhdgenmnoaaLx3
import Derived.Test.YthjkmhdgenmnoaaRAesBack
import Derived.Test.YthjkmhdgenmnoaaWAes
import Derived.Test.YthjkmhdgenmnoaaWLaw04
namespace Go.Proofs.Ythjkmhdgenmnoaa
set_option linter.unusedSimpArgs false
set_option linter.unusedVariables false
set_option linter.unusedSectionVars false
open Go Go.LW
theorem FAesBack.bool4 : boolB Try.prog 4 = true := by kernel_rfl
theorem FAesBack.mixed : Try.prog.follows .mixedOrders = true := by kernel_rfl
theorem FAesBack.call10 : callB Try.prog 10 = true := by kernel_rfl
theorem FAesBack.agg26 : aggT Try.prog 26 32 = true := by kernel_rfl
theorem FAesBack.call11 : callB Try.prog 11 = true := by kernel_rfl
theorem FAesBack.ptr30 : ptrB Try.prog 30 = true := by kernel_rfl
theorem FAesBack.agg27 : aggT Try.prog 27 16 = true := by kernel_rfl
theorem FAesBack.z27 : zeroIs Try.prog 27 [(16, fun _ => VU .u8 0#8)] := zeroIs_agg (by kernel_rfl)
theorem FAesBack.sz27 : szT Try.prog 27 16 = true := by kernel_rfl
theorem FAesBack.call15 : callB Try.prog 15 = true := by kernel_rfl
theorem FAesBack.call17 : callB Try.prog 17 = true := by kernel_rfl
theorem FAesBack.arrI27 : arrIB Try.prog 27 16 .u8 = true := by kernel_rfl
theorem FAesBack.call18 : callB Try.prog 18 = true := by kernel_rfl

set_option maxRecDepth 8000 in
set_option maxHeartbeats 1000000 in
theorem lethelaw04_AesBack_ok {B : Nat} {w0 w : World} {L : List Rg} {key1 : Nat → BitVec 8} {a2 : Nat → BitVec 8} {b3 : Nat → BitVec 8} {x_4 : BitVec 8} {r : Bool} (hR : lethelaw04_AesBack key1 a2 b3 x_4 r) (HST : St B w0 (L) w) :
    Calls Try.prog 6 #[AG [(32, fun q => VU .u8 (key1 q))], AG [(16, fun q => VU .u8 (a2 q))], AG [(16, fun q => VU .u8 (b3 q))], VU .u8 x_4] w fun e w' => e = .returned (.bool r) ∧ St B w0 (L) w' := by
  refine W.enter 63 Try.func6 rfl rfl rfl ?_
  unfold lethelaw04_AesBack at hR
  refine W.seq_k fun K5 hK5 => ?_
  refine W.regionT [(0, false), (1, false), (2, false), (3, true)] (by kernel_rfl) ?_
  refine Plan.boxA HST rfl rfl PIn.nil fun b6 w6 hb6 h6 => ?_
  simp only [rngs, Nat.zero_add, Nat.reduceAdd, List.cons_append, List.nil_append] at h6
  refine Plan.boxA h6 rfl rfl PIn.nil fun b7 w7 hb7 h7 => ?_
  simp only [rngs, Nat.zero_add, Nat.reduceAdd, List.cons_append, List.nil_append] at h7
  refine Plan.boxA h7 rfl rfl PIn.nil fun b8 w8 hb8 h8 => ?_
  simp only [rngs, Nat.zero_add, Nat.reduceAdd, List.cons_append, List.nil_append] at h8
  refine Plan.assign_bool rfl rfl ?_
  refine Plan.nil ?_
  refine hK5 _ _ ?_; clear hK5
  refine W.seq_k fun K9 hK9 => ?_
  refine W.regionT [(0, true), (1, false), (2, true)] (by kernel_rfl) ?_
  refine Plan.loadA1 h8 2 rfl rfl rfl FAesBack.agg26 ?_
  rcases hR with ⟨hr10, hR⟩ | ⟨x_11, x_12, x_13, x_14, hr10, hR⟩
  ·
    refine Plan.call (vs := [AG [(32, fun q => VU .u8 (key1 q))]]) rfl FAesBack.call11 rfl (lethelaw04_of_ok  hr10 h8) ?_
    rintro _ w15 ⟨rfl, h15⟩
    refine ⟨_, rfl, .inr ⟨rfl, ?_⟩⟩
    refine Plan.assign_ptr rfl rfl ?_
    refine Plan.nil ?_
    refine hK9 _ _ ?_; clear hK9
    refine W.seq_k fun K16 hK16 => ?_
    refine W.seq_k fun K17 hK17 => ?_
    refine W.regionT [(0, true), (1, true)] (by kernel_rfl) ?_
    refine Plan.move_ptr rfl rfl ?_
    refine Plan.eqNil (b := true) FAesBack.ptr30 rfl rfl rfl rfl ?_
    refine Plan.nil ?_
    refine hK17 _ _ ?_; clear hK17
    refine W.condT rfl ?_
    refine W.seq_k fun K18 hK18 => ?_
    refine W.regionT [(0, true)] (by kernel_rfl) ?_
    refine Plan.assign_bool rfl rfl ?_
    refine Plan.nil ?_
    refine hK18 _ _ ?_; clear hK18
    refine W.ret (thenR_ret (finR_ret ?_))
    have h19 := St.pickT (C := [_, _, _]) h15 [] (by decide)
    simp only [pick, List.filterMap_cons, List.filterMap_nil, List.getElem?_cons_zero, List.getElem?_cons_succ, List.cons_append, List.nil_append] at h19
    subst r
    refine RetOk.mk (.tmp_bool rfl .nil) ?_
    exact ⟨rfl, h19⟩
  ·
    refine Plan.call (vs := [AG [(32, fun q => VU .u8 (key1 q))]]) rfl FAesBack.call11 rfl (lethelaw04_of_ok  hr10 h8) ?_
    rintro _ w21 ⟨b0_20, rfl, h21⟩
    refine ⟨_, rfl, .inr ⟨rfl, ?_⟩⟩
    refine Plan.assign_ptr rfl rfl ?_
    refine Plan.nil ?_
    refine hK9 _ _ ?_; clear hK9
    refine W.seq_k fun K22 hK22 => ?_
    refine W.seq_k fun K23 hK23 => ?_
    refine W.regionT [(0, true), (1, true)] (by kernel_rfl) ?_
    refine Plan.move_ptr rfl rfl ?_
    refine Plan.eqNil (b := false) FAesBack.ptr30 rfl rfl rfl rfl ?_
    refine Plan.nil ?_
    refine hK23 _ _ ?_; clear hK23
    refine W.condF rfl ?_
    refine W.skip ?_
    refine hK22 _ _ ?_; clear hK22
    refine W.seq_k fun K24 hK24 => ?_
    refine W.regionF FAesBack.mixed (.fork [(0, true), (1, true), (3, true), (4, true)] (.fork [(2, false)] (.fork [(5, false)] (.line [(6, false), (7, false), (8, false), (9, false)]) (.line [(7, false), (6, false), (8, false), (9, false)])) (.fork [] (.fork [(6, false)] (.line [(5, false), (7, false), (8, false), (9, false)]) (.line [(7, false), (5, false), (8, false), (9, false)])) (.fork [(7, false)] (.line [(5, false), (6, false), (8, false), (9, false)]) (.line [(6, false), (5, false), (8, false), (9, false)])))) (.fork [] (.fork [(6, false)] (.fork [(2, false)] (.line [(5, false), (7, false), (8, false), (9, false)]) (.line [(7, false), (5, false), (8, false), (9, false)])) (.line [(7, false), (2, false), (5, false), (8, false), (9, false)])) (.fork [(7, false)] (.fork [(2, false)] (.line [(5, false), (6, false), (8, false), (9, false)]) (.line [(6, false), (5, false), (8, false), (9, false)])) (.line [(6, false), (2, false), (5, false), (8, false), (9, false)])))) (by kernel_rfl) (PlanT.toFork ?_)
    have h126 := h21.drew
    refine Plan.move_ptr rfl rfl ?_
    refine Plan.loadA1 h126 5 rfl rfl rfl FAesBack.agg27 ?_
    refine Plan.move_ptr rfl rfl ?_
    refine Plan.loadA1 h126 4 rfl rfl rfl FAesBack.agg27 ?_
    refine Plan.forked ?_ ?_
    ·
      refine PlanT.toFork ?_
      obtain ⟨x_128, hr127, hR⟩ := hR
      refine Plan.call (vs := [.pointer (some ⟨b0_20, 0, none⟩), AG [(16, fun q => VU .u8 (a2 q))]]) rfl FAesBack.call15 rfl (aes_Cipher_Encrypt_ok  hr127 h126) ?_
      rintro _ w129 ⟨rfl, h129⟩
      refine ⟨_, rfl, .inl ⟨PIn.keep (PIn.cons 4 rfl (PIn.cons 5 rfl PIn.nil)) h129, ?_⟩⟩
      refine Plan.forked ?_ ?_
      ·
        refine PlanT.toFork ?_
        obtain ⟨x_131, hr130, hR⟩ := hR
        refine Plan.call (vs := [.pointer (some ⟨b0_20, 0, none⟩), AG [(16, fun q => VU .u8 (b3 q))]]) rfl FAesBack.call15 rfl (aes_Cipher_Encrypt_ok  hr130 h129) ?_
        rintro _ w132 ⟨rfl, h132⟩
        refine ⟨_, rfl, .inl ⟨PIn.keep (PIn.cons 4 rfl (PIn.cons 5 rfl PIn.nil)) h132, ?_⟩⟩
        refine Plan.forked ?_ ?_
        ·
          refine PlanT.toLine ?_
          refine Plan.alloc h132 rfl FAesBack.z27 (PIn.cons 4 rfl (PIn.cons 5 rfl PIn.nil)) fun b133 w133 hb133 h133 => ?_
          simp only [rngs, Nat.zero_add, Nat.reduceAdd, List.cons_append, List.nil_append] at h133
          refine Plan.alloc h133 rfl FAesBack.z27 (PIn.cons 5 rfl (PIn.cons 6 rfl PIn.nil)) fun b134 w134 hb134 h134 => ?_
          simp only [rngs, Nat.zero_add, Nat.reduceAdd, List.cons_append, List.nil_append] at h134
          refine Plan.storeP (ps := [(16, fun q => VU .u8 (x_128 q))]) h134 rfl rfl rfl (.cons 1 rfl .nil) ⟨fun _ _ => rfl, trivial⟩ FAesBack.sz27 (EffO.keep (PIn.cons 6 rfl (PIn.cons 7 rfl PIn.nil))) fun w135 h135 => ?_
          simp only [List.set_cons_zero, List.set_cons_succ] at h135
          refine Plan.storeA (f' := fun q => VU .u8 (x_131 q)) h135 0 rfl rfl rfl rfl (fun _ _ => rfl) FAesBack.sz27 rfl fun w136 h136 => ?_
          simp only [List.set_cons_zero, List.set_cons_succ] at h136
          refine Plan.nil ?_
          refine hK24 _ _ ?_; clear hK24
          refine W.seq_k fun K137 hK137 => ?_
          refine W.seq_k fun K156 hK156 => ?_
          refine W.regionD FAesBack.mixed [(0, true), (1, true), (3, true), (2, false), (4, true), (5, true), (6, true), (7, true), (8, true), (11, true), (9, false), (10, false), (12, true), (13, true), (14, true), (15, true), (16, true), (17, true), (18, true), (19, true), (20, true), (21, true), (22, true)] (by kernel_rfl) ?_
          have h157 := h136.drew
          refine Plan.move_ptr rfl rfl ?_
          refine Plan.loadA1 h157 1 rfl rfl rfl FAesBack.agg27 ?_
          refine Plan.loadA1 h157 7 rfl rfl rfl FAesBack.agg27 ?_
          have h158 := St.pickT (C := [_, _, _, _, _, _, _, _, _]) h157 [2, 3, 4, 5, 0, 1, 6, 7, 8] (by decide)
          simp only [pick, List.filterMap_cons, List.filterMap_nil, List.getElem?_cons_zero, List.getElem?_cons_succ, List.cons_append, List.nil_append] at h158
          obtain ⟨x_160, hr159, hR⟩ := hR
          refine Plan.call (vs := [.pointer (some ⟨b0_20, 0, none⟩), AG [(16, fun q => VU .u8 (x_128 q))]]) rfl FAesBack.call17 rfl (aes_Cipher_Decrypt_ok  hr159 h158) ?_
          rintro _ w161 ⟨rfl, h161⟩
          refine ⟨_, rfl, .inl ⟨PIn.keep (PIn.cons 7 rfl (PIn.cons 5 rfl PIn.nil)) h161, ?_⟩⟩
          by_cases hc162 : (eqB 16 x_160 a2) = true
          ·
            replace hR := ifT hR hc162
            refine Plan.neArrV (b := true) FAesBack.arrI27 rfl rfl rfl hc162 ?_
            refine Plan.move_bool rfl rfl ?_
            refine Plan.move_ptr rfl rfl ?_
            refine Plan.move_ptr rfl rfl ?_
            refine Plan.loadA1 h161 7 rfl rfl rfl FAesBack.agg27 ?_
            refine Plan.loadA1 h161 7 rfl rfl rfl FAesBack.agg27 ?_
            obtain ⟨x_164, hr163, hR⟩ := hR
            refine Plan.call (vs := [.pointer (some ⟨b0_20, 0, none⟩), AG [(16, fun q => VU .u8 (a2 q))]]) rfl FAesBack.call17 rfl (aes_Cipher_Decrypt_ok  hr163 h161) ?_
            rintro _ w165 ⟨rfl, h165⟩
            refine ⟨_, rfl, .inl ⟨PIn.keep (PIn.cons 7 rfl (PIn.cons 7 rfl (PIn.cons 7 rfl (PIn.cons 5 rfl PIn.nil)))) h165, ?_⟩⟩
            obtain ⟨x_167, hr166, hR⟩ := hR
            refine Plan.call (vs := [.pointer (some ⟨b0_20, 0, none⟩), AG [(16, fun q => VU .u8 (x_164 q))]]) rfl FAesBack.call15 rfl (aes_Cipher_Encrypt_ok  hr166 h165) ?_
            rintro _ w168 ⟨rfl, h168⟩
            refine ⟨_, rfl, .inl ⟨PIn.keep (PIn.cons 7 rfl (PIn.cons 7 rfl (PIn.cons 7 rfl (PIn.cons 5 rfl PIn.nil)))) h168, ?_⟩⟩
            by_cases hc169 : (eqB 16 x_167 a2) = true
            ·
              replace hR := ifT hR hc169
              refine Plan.neArrV (b := true) FAesBack.arrI27 rfl rfl rfl hc169 ?_
              refine Plan.pickFb rfl rfl rfl ?_
              refine Plan.move_bool rfl rfl ?_
              refine Plan.loadA1 h168 5 rfl rfl rfl FAesBack.agg27 ?_
              refine Plan.loadA1 h168 4 rfl rfl rfl FAesBack.agg27 ?_
              refine Plan.eqArrV (b := (eqB 16 x_128 x_131)) FAesBack.arrI27 rfl rfl rfl rfl ?_
              refine Plan.loadA1 h168 7 rfl rfl rfl FAesBack.agg27 ?_
              refine Plan.loadA1 h168 6 rfl rfl rfl FAesBack.agg27 ?_
              refine Plan.eqArrV (b := (eqB 16 a2 b3)) FAesBack.arrI27 rfl rfl rfl rfl ?_
              refine Plan.neBoolV (v := ((eqB 16 x_128 x_131) != (eqB 16 a2 b3))) FAesBack.bool4 rfl rfl rfl rfl ?_
              refine Plan.pickFb rfl rfl rfl ?_
              refine Plan.nil ?_
              refine hK156 _ _ ?_; clear hK156
              by_cases hc170 : ((eqB 16 x_128 x_131) != (eqB 16 a2 b3)) = true
              ·
                replace hR := ifT hR hc170
                refine W.condT (congrArg Value.bool hc170) ?_
                refine W.seq_k fun K171 hK171 => ?_
                refine W.regionT [(0, true)] (by kernel_rfl) ?_
                refine Plan.assign_bool rfl rfl ?_
                refine Plan.nil ?_
                refine hK171 _ _ ?_; clear hK171
                refine W.ret (thenR_ret (finR_ret ?_))
                have h172 := St.pickT (C := [_, _, _, _, _, _, _, _, _]) h168 [] (by decide)
                simp only [pick, List.filterMap_cons, List.filterMap_nil, List.getElem?_cons_zero, List.getElem?_cons_succ, List.cons_append, List.nil_append] at h172
                subst r
                refine RetOk.mk (.tmp_bool rfl .nil) ?_
                exact ⟨rfl, h172⟩
              ·
                replace hR := ifF hR hc170
                refine W.condF (congrArg Value.bool (Bool.eq_false_iff.2 hc170)) ?_
                refine W.skip ?_
                refine hK137 _ _ ?_; clear hK137
                refine W.seq_k fun K173 hK173 => ?_
                refine W.regionT [(0, true), (1, false), (2, false), (3, true), (4, true), (5, true), (6, true), (7, false), (8, false), (9, true), (10, true), (11, true), (12, true), (13, true), (14, false), (15, true), (16, true), (17, true), (18, true)] (by kernel_rfl) ?_
                refine Plan.move_int rfl rfl ?_
                obtain ⟨x_175, hr174, hR⟩ := hR
                refine Plan.call (vs := [VU .u8 x_4]) rfl FAesBack.call10 rfl (aes_Box_ok  hr174 h168) ?_
                rintro _ w176 ⟨rfl, h176⟩
                refine ⟨_, rfl, .inl ⟨PIn.keep PIn.nil h176, ?_⟩⟩
                obtain ⟨x_178, hr177, hR⟩ := hR
                refine Plan.call (vs := [VU .u8 x_175]) rfl FAesBack.call18 rfl (aes_Unbox_ok  hr177 h176) ?_
                rintro _ w179 ⟨rfl, h179⟩
                refine ⟨_, rfl, .inl ⟨PIn.keep PIn.nil h179, ?_⟩⟩
                refine Plan.move_int rfl rfl ?_
                by_cases hc180 : x_178 = x_4
                ·
                  replace hR := ifT hR hc180
                  refine Plan.cmpV (a := (x_178.toNat : Int)) (b := (x_4.toNat : Int)) (p := x_178 = x_4) (v := true) rfl rfl rfl rfl icmp_eqU (decide_eq_true hc180) ?_
                  refine Plan.move_bool rfl rfl ?_
                  refine Plan.move_int rfl rfl ?_
                  obtain ⟨x_182, hr181, hR⟩ := hR
                  refine Plan.call (vs := [VU .u8 x_4]) rfl FAesBack.call18 rfl (aes_Unbox_ok  hr181 h179) ?_
                  rintro _ w183 ⟨rfl, h183⟩
                  refine ⟨_, rfl, .inl ⟨PIn.keep PIn.nil h183, ?_⟩⟩
                  obtain ⟨x_185, hr184, hR⟩ := hR
                  refine Plan.call (vs := [VU .u8 x_182]) rfl FAesBack.call10 rfl (aes_Box_ok  hr184 h183) ?_
                  rintro _ w186 ⟨rfl, h186⟩
                  refine ⟨_, rfl, .inl ⟨PIn.keep PIn.nil h186, ?_⟩⟩
                  refine Plan.move_int rfl rfl ?_
                  by_cases hc187 : x_185 = x_4
                  ·
                    replace hR := ifT hR hc187
                    refine Plan.cmpV (a := (x_185.toNat : Int)) (b := (x_4.toNat : Int)) (p := x_185 = x_4) (v := true) rfl rfl rfl rfl icmp_eqU (decide_eq_true hc187) ?_
                    refine Plan.pickTb rfl rfl rfl ?_
                    refine Plan.move_bool rfl rfl ?_
                    refine Plan.move_int rfl rfl ?_
                    obtain ⟨x_189, hr188, hR⟩ := hR
                    refine Plan.call (vs := [VU .u8 x_4]) rfl FAesBack.call10 rfl (aes_Box_ok  hr188 h186) ?_
                    rintro _ w190 ⟨rfl, h190⟩
                    refine ⟨_, rfl, .inl ⟨PIn.keep PIn.nil h190, ?_⟩⟩
                    refine Plan.move_int rfl rfl ?_
                    refine Plan.cmpP (a := (x_189.toNat : Int)) (b := (x_4.toNat : Int)) (p := x_189 ≠ x_4) rfl rfl rfl rfl icmp_neU ?_
                    refine Plan.pickTb rfl rfl rfl ?_
                    refine Plan.assign_bool rfl rfl ?_
                    refine Plan.nil ?_
                    refine hK173 _ _ ?_; clear hK173
                    refine W.ret (finR_ret ?_)
                    have h191 := St.pickT (C := [_, _, _, _, _, _, _, _, _]) h190 [] (by decide)
                    simp only [pick, List.filterMap_cons, List.filterMap_nil, List.getElem?_cons_zero, List.getElem?_cons_succ, List.cons_append, List.nil_append] at h191
                    subst r
                    refine RetOk.mk (.tmp_bool rfl .nil) ?_
                    exact ⟨rfl, h191⟩
                  ·
                    replace hR := ifF hR hc187
                    refine Plan.cmpV (a := (x_185.toNat : Int)) (b := (x_4.toNat : Int)) (p := x_185 = x_4) (v := false) rfl rfl rfl rfl icmp_eqU (decide_eq_false hc187) ?_
                    refine Plan.pickTb rfl rfl rfl ?_
                    refine Plan.move_bool rfl rfl ?_
                    refine Plan.passed rfl ?_
                    refine Plan.passed rfl ?_
                    refine Plan.passed rfl ?_
                    refine Plan.passed rfl ?_
                    refine Plan.pickFb rfl rfl rfl ?_
                    refine Plan.assign_bool rfl rfl ?_
                    refine Plan.nil ?_
                    refine hK173 _ _ ?_; clear hK173
                    refine W.ret (finR_ret ?_)
                    have h192 := St.pickT (C := [_, _, _, _, _, _, _, _, _]) h186 [] (by decide)
                    simp only [pick, List.filterMap_cons, List.filterMap_nil, List.getElem?_cons_zero, List.getElem?_cons_succ, List.cons_append, List.nil_append] at h192
                    subst r
                    refine RetOk.mk (.tmp_bool rfl .nil) ?_
                    exact ⟨rfl, h192⟩
                ·
                  replace hR := ifF hR hc180
                  refine Plan.cmpV (a := (x_178.toNat : Int)) (b := (x_4.toNat : Int)) (p := x_178 = x_4) (v := false) rfl rfl rfl rfl icmp_eqU (decide_eq_false hc180) ?_
                  refine Plan.move_bool rfl rfl ?_
                  refine Plan.passed rfl ?_
                  refine Plan.passed rfl ?_
                  refine Plan.passed rfl ?_
                  refine Plan.passed rfl ?_
                  refine Plan.passed rfl ?_
                  refine Plan.pickFb rfl rfl rfl ?_
                  refine Plan.move_bool rfl rfl ?_
                  refine Plan.passed rfl ?_
                  refine Plan.passed rfl ?_
                  refine Plan.passed rfl ?_
                  refine Plan.passed rfl ?_
                  refine Plan.pickFb rfl rfl rfl ?_
                  refine Plan.assign_bool rfl rfl ?_
                  refine Plan.nil ?_
                  refine hK173 _ _ ?_; clear hK173
                  refine W.ret (finR_ret ?_)
                  have h193 := St.pickT (C := [_, _, _, _, _, _, _, _, _]) h179 [] (by decide)
                  simp only [pick, List.filterMap_cons, List.filterMap_nil, List.getElem?_cons_zero, List.getElem?_cons_succ, List.cons_append, List.nil_append] at h193
                  subst r
                  refine RetOk.mk (.tmp_bool rfl .nil) ?_
                  exact ⟨rfl, h193⟩
            ·
              replace hR := ifF hR hc169
              refine Plan.neArrV (b := false) FAesBack.arrI27 rfl rfl rfl (Bool.eq_false_iff.2 hc169) ?_
              refine Plan.pickFb rfl rfl rfl ?_
              refine Plan.move_bool rfl rfl ?_
              refine Plan.passed rfl ?_
              refine Plan.passed rfl ?_
              refine Plan.passed rfl ?_
              refine Plan.passed rfl ?_
              refine Plan.passed rfl ?_
              refine Plan.passed rfl ?_
              refine Plan.passed rfl ?_
              refine Plan.pickTb rfl rfl rfl ?_
              refine Plan.nil ?_
              refine hK156 _ _ ?_; clear hK156
              refine W.condT rfl ?_
              refine W.seq_k fun K194 hK194 => ?_
              refine W.regionT [(0, true)] (by kernel_rfl) ?_
              refine Plan.assign_bool rfl rfl ?_
              refine Plan.nil ?_
              refine hK194 _ _ ?_; clear hK194
              refine W.ret (thenR_ret (finR_ret ?_))
              have h195 := St.pickT (C := [_, _, _, _, _, _, _, _, _]) h168 [] (by decide)
              simp only [pick, List.filterMap_cons, List.filterMap_nil, List.getElem?_cons_zero, List.getElem?_cons_succ, List.cons_append, List.nil_append] at h195
              subst r
              refine RetOk.mk (.tmp_bool rfl .nil) ?_
              exact ⟨rfl, h195⟩
          ·
            replace hR := ifF hR hc162
            refine Plan.neArrV (b := false) FAesBack.arrI27 rfl rfl rfl (Bool.eq_false_iff.2 hc162) ?_
            refine Plan.move_bool rfl rfl ?_
            refine Plan.passed rfl ?_
            refine Plan.passed rfl ?_
            refine Plan.passed rfl ?_
            refine Plan.passed rfl ?_
            refine Plan.passed rfl ?_
            refine Plan.passed rfl ?_
            refine Plan.passed rfl ?_
            refine Plan.pickTb rfl rfl rfl ?_
            refine Plan.move_bool rfl rfl ?_
            refine Plan.passed rfl ?_
            refine Plan.passed rfl ?_
            refine Plan.passed rfl ?_
            refine Plan.passed rfl ?_
            refine Plan.passed rfl ?_
            refine Plan.passed rfl ?_
            refine Plan.passed rfl ?_
            refine Plan.pickTb rfl rfl rfl ?_
            refine Plan.nil ?_
            refine hK156 _ _ ?_; clear hK156
            refine W.condT rfl ?_
            refine W.seq_k fun K196 hK196 => ?_
            refine W.regionT [(0, true)] (by kernel_rfl) ?_
            refine Plan.assign_bool rfl rfl ?_
            refine Plan.nil ?_
            refine hK196 _ _ ?_; clear hK196
            refine W.ret (thenR_ret (finR_ret ?_))
            have h197 := St.pickT (C := [_, _, _, _, _, _, _, _, _]) h161 [] (by decide)
            simp only [pick, List.filterMap_cons, List.filterMap_nil, List.getElem?_cons_zero, List.getElem?_cons_succ, List.cons_append, List.nil_append] at h197
            subst r
            refine RetOk.mk (.tmp_bool rfl .nil) ?_
            exact ⟨rfl, h197⟩
        ·
          refine PlanT.toLine ?_
          refine Plan.alloc h132 rfl FAesBack.z27 (PIn.cons 4 rfl (PIn.cons 5 rfl PIn.nil)) fun b198 w198 hb198 h198 => ?_
          simp only [rngs, Nat.zero_add, Nat.reduceAdd, List.cons_append, List.nil_append] at h198
          refine Plan.alloc h198 rfl FAesBack.z27 (PIn.cons 5 rfl (PIn.cons 6 rfl PIn.nil)) fun b199 w199 hb199 h199 => ?_
          simp only [rngs, Nat.zero_add, Nat.reduceAdd, List.cons_append, List.nil_append] at h199
          refine Plan.storeP (ps := [(16, fun q => VU .u8 (x_128 q))]) h199 rfl rfl rfl (.cons 0 rfl .nil) ⟨fun _ _ => rfl, trivial⟩ FAesBack.sz27 (EffO.keep (PIn.cons 6 rfl (PIn.cons 7 rfl PIn.nil))) fun w200 h200 => ?_
          simp only [List.set_cons_zero, List.set_cons_succ] at h200
          refine Plan.storeA (f' := fun q => VU .u8 (x_131 q)) h200 1 rfl rfl rfl rfl (fun _ _ => rfl) FAesBack.sz27 rfl fun w201 h201 => ?_
          simp only [List.set_cons_zero, List.set_cons_succ] at h201
          refine Plan.nil ?_
          refine hK24 _ _ ?_; clear hK24
          refine W.seq_k fun K202 hK202 => ?_
          refine W.seq_k fun K221 hK221 => ?_
          refine W.regionD FAesBack.mixed [(0, true), (1, true), (3, true), (2, false), (4, true), (5, true), (6, true), (7, true), (8, true), (11, true), (9, false), (10, false), (12, true), (13, true), (14, true), (15, true), (16, true), (17, true), (18, true), (19, true), (20, true), (21, true), (22, true)] (by kernel_rfl) ?_
          have h222 := h201.drew
          refine Plan.move_ptr rfl rfl ?_
          refine Plan.loadA1 h222 0 rfl rfl rfl FAesBack.agg27 ?_
          refine Plan.loadA1 h222 7 rfl rfl rfl FAesBack.agg27 ?_
          have h223 := St.pickT (C := [_, _, _, _, _, _, _, _, _]) h222 [2, 3, 4, 5, 0, 1, 6, 7, 8] (by decide)
          simp only [pick, List.filterMap_cons, List.filterMap_nil, List.getElem?_cons_zero, List.getElem?_cons_succ, List.cons_append, List.nil_append] at h223
          obtain ⟨x_225, hr224, hR⟩ := hR
          refine Plan.call (vs := [.pointer (some ⟨b0_20, 0, none⟩), AG [(16, fun q => VU .u8 (x_128 q))]]) rfl FAesBack.call17 rfl (aes_Cipher_Decrypt_ok  hr224 h223) ?_
          rintro _ w226 ⟨rfl, h226⟩
          refine ⟨_, rfl, .inl ⟨PIn.keep (PIn.cons 7 rfl (PIn.cons 4 rfl PIn.nil)) h226, ?_⟩⟩
          by_cases hc227 : (eqB 16 x_225 a2) = true
          ·
            replace hR := ifT hR hc227
            refine Plan.neArrV (b := true) FAesBack.arrI27 rfl rfl rfl hc227 ?_
            refine Plan.move_bool rfl rfl ?_
            refine Plan.move_ptr rfl rfl ?_
            refine Plan.move_ptr rfl rfl ?_
            refine Plan.loadA1 h226 7 rfl rfl rfl FAesBack.agg27 ?_
            refine Plan.loadA1 h226 7 rfl rfl rfl FAesBack.agg27 ?_
            obtain ⟨x_229, hr228, hR⟩ := hR
            refine Plan.call (vs := [.pointer (some ⟨b0_20, 0, none⟩), AG [(16, fun q => VU .u8 (a2 q))]]) rfl FAesBack.call17 rfl (aes_Cipher_Decrypt_ok  hr228 h226) ?_
            rintro _ w230 ⟨rfl, h230⟩
            refine ⟨_, rfl, .inl ⟨PIn.keep (PIn.cons 7 rfl (PIn.cons 7 rfl (PIn.cons 7 rfl (PIn.cons 4 rfl PIn.nil)))) h230, ?_⟩⟩
            obtain ⟨x_232, hr231, hR⟩ := hR
            refine Plan.call (vs := [.pointer (some ⟨b0_20, 0, none⟩), AG [(16, fun q => VU .u8 (x_229 q))]]) rfl FAesBack.call15 rfl (aes_Cipher_Encrypt_ok  hr231 h230) ?_
            rintro _ w233 ⟨rfl, h233⟩
            refine ⟨_, rfl, .inl ⟨PIn.keep (PIn.cons 7 rfl (PIn.cons 7 rfl (PIn.cons 7 rfl (PIn.cons 4 rfl PIn.nil)))) h233, ?_⟩⟩
            by_cases hc234 : (eqB 16 x_232 a2) = true
            ·
              replace hR := ifT hR hc234
              refine Plan.neArrV (b := true) FAesBack.arrI27 rfl rfl rfl hc234 ?_
              refine Plan.pickFb rfl rfl rfl ?_
              refine Plan.move_bool rfl rfl ?_
              refine Plan.loadA1 h233 4 rfl rfl rfl FAesBack.agg27 ?_
              refine Plan.loadA1 h233 5 rfl rfl rfl FAesBack.agg27 ?_
              refine Plan.eqArrV (b := (eqB 16 x_128 x_131)) FAesBack.arrI27 rfl rfl rfl rfl ?_
              refine Plan.loadA1 h233 7 rfl rfl rfl FAesBack.agg27 ?_
              refine Plan.loadA1 h233 6 rfl rfl rfl FAesBack.agg27 ?_
              refine Plan.eqArrV (b := (eqB 16 a2 b3)) FAesBack.arrI27 rfl rfl rfl rfl ?_
              refine Plan.neBoolV (v := ((eqB 16 x_128 x_131) != (eqB 16 a2 b3))) FAesBack.bool4 rfl rfl rfl rfl ?_
              refine Plan.pickFb rfl rfl rfl ?_
              refine Plan.nil ?_
              refine hK221 _ _ ?_; clear hK221
              by_cases hc235 : ((eqB 16 x_128 x_131) != (eqB 16 a2 b3)) = true
              ·
                replace hR := ifT hR hc235
                refine W.condT (congrArg Value.bool hc235) ?_
                refine W.seq_k fun K236 hK236 => ?_
                refine W.regionT [(0, true)] (by kernel_rfl) ?_
                refine Plan.assign_bool rfl rfl ?_
                refine Plan.nil ?_
                refine hK236 _ _ ?_; clear hK236
                refine W.ret (thenR_ret (finR_ret ?_))
                have h237 := St.pickT (C := [_, _, _, _, _, _, _, _, _]) h233 [] (by decide)
                simp only [pick, List.filterMap_cons, List.filterMap_nil, List.getElem?_cons_zero, List.getElem?_cons_succ, List.cons_append, List.nil_append] at h237
                subst r
                refine RetOk.mk (.tmp_bool rfl .nil) ?_
                exact ⟨rfl, h237⟩
              ·
                replace hR := ifF hR hc235
                refine W.condF (congrArg Value.bool (Bool.eq_false_iff.2 hc235)) ?_
                refine W.skip ?_
                refine hK202 _ _ ?_; clear hK202
                refine W.seq_k fun K238 hK238 => ?_
                refine W.regionT [(0, true), (1, false), (2, false), (3, true), (4, true), (5, true), (6, true), (7, false), (8, false), (9, true), (10, true), (11, true), (12, true), (13, true), (14, false), (15, true), (16, true), (17, true), (18, true)] (by kernel_rfl) ?_
                refine Plan.move_int rfl rfl ?_
                obtain ⟨x_240, hr239, hR⟩ := hR
                refine Plan.call (vs := [VU .u8 x_4]) rfl FAesBack.call10 rfl (aes_Box_ok  hr239 h233) ?_
                rintro _ w241 ⟨rfl, h241⟩
                refine ⟨_, rfl, .inl ⟨PIn.keep PIn.nil h241, ?_⟩⟩
                obtain ⟨x_243, hr242, hR⟩ := hR
                refine Plan.call (vs := [VU .u8 x_240]) rfl FAesBack.call18 rfl (aes_Unbox_ok  hr242 h241) ?_
                rintro _ w244 ⟨rfl, h244⟩
                refine ⟨_, rfl, .inl ⟨PIn.keep PIn.nil h244, ?_⟩⟩
                refine Plan.move_int rfl rfl ?_
                by_cases hc245 : x_243 = x_4
                ·
                  replace hR := ifT hR hc245
                  refine Plan.cmpV (a := (x_243.toNat : Int)) (b := (x_4.toNat : Int)) (p := x_243 = x_4) (v := true) rfl rfl rfl rfl icmp_eqU (decide_eq_true hc245) ?_
                  refine Plan.move_bool rfl rfl ?_
                  refine Plan.move_int rfl rfl ?_
                  obtain ⟨x_247, hr246, hR⟩ := hR
                  refine Plan.call (vs := [VU .u8 x_4]) rfl FAesBack.call18 rfl (aes_Unbox_ok  hr246 h244) ?_
                  rintro _ w248 ⟨rfl, h248⟩
                  refine ⟨_, rfl, .inl ⟨PIn.keep PIn.nil h248, ?_⟩⟩
                  obtain ⟨x_250, hr249, hR⟩ := hR
                  refine Plan.call (vs := [VU .u8 x_247]) rfl FAesBack.call10 rfl (aes_Box_ok  hr249 h248) ?_
                  rintro _ w251 ⟨rfl, h251⟩
                  refine ⟨_, rfl, .inl ⟨PIn.keep PIn.nil h251, ?_⟩⟩
                  refine Plan.move_int rfl rfl ?_
                  by_cases hc252 : x_250 = x_4
                  ·
                    replace hR := ifT hR hc252
                    refine Plan.cmpV (a := (x_250.toNat : Int)) (b := (x_4.toNat : Int)) (p := x_250 = x_4) (v := true) rfl rfl rfl rfl icmp_eqU (decide_eq_true hc252) ?_
                    refine Plan.pickTb rfl rfl rfl ?_
                    refine Plan.move_bool rfl rfl ?_
                    refine Plan.move_int rfl rfl ?_
                    obtain ⟨x_254, hr253, hR⟩ := hR
                    refine Plan.call (vs := [VU .u8 x_4]) rfl FAesBack.call10 rfl (aes_Box_ok  hr253 h251) ?_
                    rintro _ w255 ⟨rfl, h255⟩
                    refine ⟨_, rfl, .inl ⟨PIn.keep PIn.nil h255, ?_⟩⟩
                    refine Plan.move_int rfl rfl ?_
                    refine Plan.cmpP (a := (x_254.toNat : Int)) (b := (x_4.toNat : Int)) (p := x_254 ≠ x_4) rfl rfl rfl rfl icmp_neU ?_
                    refine Plan.pickTb rfl rfl rfl ?_
                    refine Plan.assign_bool rfl rfl ?_
                    refine Plan.nil ?_
                    refine hK238 _ _ ?_; clear hK238
                    refine W.ret (finR_ret ?_)
                    have h256 := St.pickT (C := [_, _, _, _, _, _, _, _, _]) h255 [] (by decide)
                    simp only [pick, List.filterMap_cons, List.filterMap_nil, List.getElem?_cons_zero, List.getElem?_cons_succ, List.cons_append, List.nil_append] at h256
                    subst r
                    refine RetOk.mk (.tmp_bool rfl .nil) ?_
                    exact ⟨rfl, h256⟩
                  ·
                    replace hR := ifF hR hc252
                    refine Plan.cmpV (a := (x_250.toNat : Int)) (b := (x_4.toNat : Int)) (p := x_250 = x_4) (v := false) rfl rfl rfl rfl icmp_eqU (decide_eq_false hc252) ?_
                    refine Plan.pickTb rfl rfl rfl ?_
                    refine Plan.move_bool rfl rfl ?_
                    refine Plan.passed rfl ?_
                    refine Plan.passed rfl ?_
                    refine Plan.passed rfl ?_
                    refine Plan.passed rfl ?_
                    refine Plan.pickFb rfl rfl rfl ?_
                    refine Plan.assign_bool rfl rfl ?_
                    refine Plan.nil ?_
                    refine hK238 _ _ ?_; clear hK238
                    refine W.ret (finR_ret ?_)
                    have h257 := St.pickT (C := [_, _, _, _, _, _, _, _, _]) h251 [] (by decide)
                    simp only [pick, List.filterMap_cons, List.filterMap_nil, List.getElem?_cons_zero, List.getElem?_cons_succ, List.cons_append, List.nil_append] at h257
                    subst r
                    refine RetOk.mk (.tmp_bool rfl .nil) ?_
                    exact ⟨rfl, h257⟩
                ·
                  replace hR := ifF hR hc245
                  refine Plan.cmpV (a := (x_243.toNat : Int)) (b := (x_4.toNat : Int)) (p := x_243 = x_4) (v := false) rfl rfl rfl rfl icmp_eqU (decide_eq_false hc245) ?_
                  refine Plan.move_bool rfl rfl ?_
                  refine Plan.passed rfl ?_
                  refine Plan.passed rfl ?_
                  refine Plan.passed rfl ?_
                  refine Plan.passed rfl ?_
                  refine Plan.passed rfl ?_
                  refine Plan.pickFb rfl rfl rfl ?_
                  refine Plan.move_bool rfl rfl ?_
                  refine Plan.passed rfl ?_
                  refine Plan.passed rfl ?_
                  refine Plan.passed rfl ?_
                  refine Plan.passed rfl ?_
                  refine Plan.pickFb rfl rfl rfl ?_
                  refine Plan.assign_bool rfl rfl ?_
                  refine Plan.nil ?_
                  refine hK238 _ _ ?_; clear hK238
                  refine W.ret (finR_ret ?_)
                  have h258 := St.pickT (C := [_, _, _, _, _, _, _, _, _]) h244 [] (by decide)
                  simp only [pick, List.filterMap_cons, List.filterMap_nil, List.getElem?_cons_zero, List.getElem?_cons_succ, List.cons_append, List.nil_append] at h258
                  subst r
                  refine RetOk.mk (.tmp_bool rfl .nil) ?_
                  exact ⟨rfl, h258⟩
            ·
              replace hR := ifF hR hc234
              refine Plan.neArrV (b := false) FAesBack.arrI27 rfl rfl rfl (Bool.eq_false_iff.2 hc234) ?_
              refine Plan.pickFb rfl rfl rfl ?_
              refine Plan.move_bool rfl rfl ?_
              refine Plan.passed rfl ?_
              refine Plan.passed rfl ?_
              refine Plan.passed rfl ?_
              refine Plan.passed rfl ?_
              refine Plan.passed rfl ?_
              refine Plan.passed rfl ?_
              refine Plan.passed rfl ?_
              refine Plan.pickTb rfl rfl rfl ?_
              refine Plan.nil ?_
              refine hK221 _ _ ?_; clear hK221
              refine W.condT rfl ?_
              refine W.seq_k fun K259 hK259 => ?_
              refine W.regionT [(0, true)] (by kernel_rfl) ?_
              refine Plan.assign_bool rfl rfl ?_
              refine Plan.nil ?_
              refine hK259 _ _ ?_; clear hK259
              refine W.ret (thenR_ret (finR_ret ?_))
              have h260 := St.pickT (C := [_, _, _, _, _, _, _, _, _]) h233 [] (by decide)
              simp only [pick, List.filterMap_cons, List.filterMap_nil, List.getElem?_cons_zero, List.getElem?_cons_succ, List.cons_append, List.nil_append] at h260
              subst r
              refine RetOk.mk (.tmp_bool rfl .nil) ?_
              exact ⟨rfl, h260⟩
          ·
            replace hR := ifF hR hc227
            refine Plan.neArrV (b := false) FAesBack.arrI27 rfl rfl rfl (Bool.eq_false_iff.2 hc227) ?_
            refine Plan.move_bool rfl rfl ?_
            refine Plan.passed rfl ?_
            refine Plan.passed rfl ?_
            refine Plan.passed rfl ?_
            refine Plan.passed rfl ?_
            refine Plan.passed rfl ?_
            refine Plan.passed rfl ?_
            refine Plan.passed rfl ?_
            refine Plan.pickTb rfl rfl rfl ?_
            refine Plan.move_bool rfl rfl ?_
            refine Plan.passed rfl ?_
            refine Plan.passed rfl ?_
            refine Plan.passed rfl ?_
            refine Plan.passed rfl ?_
            refine Plan.passed rfl ?_
            refine Plan.passed rfl ?_
            refine Plan.passed rfl ?_
            refine Plan.pickTb rfl rfl rfl ?_
            refine Plan.nil ?_
            refine hK221 _ _ ?_; clear hK221
            refine W.condT rfl ?_
            refine W.seq_k fun K261 hK261 => ?_
            refine W.regionT [(0, true)] (by kernel_rfl) ?_
            refine Plan.assign_bool rfl rfl ?_
            refine Plan.nil ?_
            refine hK261 _ _ ?_; clear hK261
            refine W.ret (thenR_ret (finR_ret ?_))
            have h262 := St.pickT (C := [_, _, _, _, _, _, _, _, _]) h226 [] (by decide)
            simp only [pick, List.filterMap_cons, List.filterMap_nil, List.getElem?_cons_zero, List.getElem?_cons_succ, List.cons_append, List.nil_append] at h262
            subst r
            refine RetOk.mk (.tmp_bool rfl .nil) ?_
            exact ⟨rfl, h262⟩
      ·
        refine PlanT.toFork ?_
        refine Plan.forked ?_ ?_
        ·
          refine PlanT.toFork ?_
          refine Plan.alloc h129 rfl FAesBack.z27 (PIn.cons 4 rfl (PIn.cons 5 rfl PIn.nil)) fun b263 w263 hb263 h263 => ?_
          simp only [rngs, Nat.zero_add, Nat.reduceAdd, List.cons_append, List.nil_append] at h263
          refine Plan.forked ?_ ?_
          ·
            refine PlanT.toLine ?_
            have h264 := St.pickT (C := [_, _, _, _, _, _, _, _]) h263 [1, 2, 3, 4, 0, 5, 6, 7] (by decide)
            simp only [pick, List.filterMap_cons, List.filterMap_nil, List.getElem?_cons_zero, List.getElem?_cons_succ, List.cons_append, List.nil_append] at h264
            obtain ⟨x_266, hr265, hR⟩ := hR
            refine Plan.call (vs := [.pointer (some ⟨b0_20, 0, none⟩), AG [(16, fun q => VU .u8 (b3 q))]]) rfl FAesBack.call15 rfl (aes_Cipher_Encrypt_ok  hr265 h264) ?_
            rintro _ w267 ⟨rfl, h267⟩
            refine ⟨_, rfl, .inl ⟨PIn.keep (PIn.cons 5 rfl (PIn.cons 6 rfl PIn.nil)) h267, ?_⟩⟩
            refine Plan.alloc h267 rfl FAesBack.z27 (PIn.cons 5 rfl (PIn.cons 6 rfl PIn.nil)) fun b268 w268 hb268 h268 => ?_
            simp only [rngs, Nat.zero_add, Nat.reduceAdd, List.cons_append, List.nil_append] at h268
            refine Plan.storeP (ps := [(16, fun q => VU .u8 (x_128 q))]) h268 rfl rfl rfl (.cons 5 rfl .nil) ⟨fun _ _ => rfl, trivial⟩ FAesBack.sz27 (EffO.keep (PIn.cons 6 rfl (PIn.cons 7 rfl PIn.nil))) fun w269 h269 => ?_
            simp only [List.set_cons_zero, List.set_cons_succ] at h269
            refine Plan.storeA (f' := fun q => VU .u8 (x_266 q)) h269 0 rfl rfl rfl rfl (fun _ _ => rfl) FAesBack.sz27 rfl fun w270 h270 => ?_
            simp only [List.set_cons_zero, List.set_cons_succ] at h270
            refine Plan.nil ?_
            refine hK24 _ _ ?_; clear hK24
            refine W.seq_k fun K271 hK271 => ?_
            refine W.seq_k fun K290 hK290 => ?_
            refine W.regionD FAesBack.mixed [(0, true), (1, true), (3, true), (2, false), (4, true), (5, true), (6, true), (7, true), (8, true), (11, true), (9, false), (10, false), (12, true), (13, true), (14, true), (15, true), (16, true), (17, true), (18, true), (19, true), (20, true), (21, true), (22, true)] (by kernel_rfl) ?_
            have h291 := h270.drew
            refine Plan.move_ptr rfl rfl ?_
            refine Plan.loadA1 h291 5 rfl rfl rfl FAesBack.agg27 ?_
            refine Plan.loadA1 h291 7 rfl rfl rfl FAesBack.agg27 ?_
            have h292 := St.pickT (C := [_, _, _, _, _, _, _, _, _]) h291 [1, 2, 3, 4, 0, 5, 6, 7, 8] (by decide)
            simp only [pick, List.filterMap_cons, List.filterMap_nil, List.getElem?_cons_zero, List.getElem?_cons_succ, List.cons_append, List.nil_append] at h292
            obtain ⟨x_294, hr293, hR⟩ := hR
            refine Plan.call (vs := [.pointer (some ⟨b0_20, 0, none⟩), AG [(16, fun q => VU .u8 (x_128 q))]]) rfl FAesBack.call17 rfl (aes_Cipher_Decrypt_ok  hr293 h292) ?_
            rintro _ w295 ⟨rfl, h295⟩
            refine ⟨_, rfl, .inl ⟨PIn.keep (PIn.cons 7 rfl (PIn.cons 5 rfl PIn.nil)) h295, ?_⟩⟩
            by_cases hc296 : (eqB 16 x_294 a2) = true
            ·
              replace hR := ifT hR hc296
              refine Plan.neArrV (b := true) FAesBack.arrI27 rfl rfl rfl hc296 ?_
              refine Plan.move_bool rfl rfl ?_
              refine Plan.move_ptr rfl rfl ?_
              refine Plan.move_ptr rfl rfl ?_
              refine Plan.loadA1 h295 7 rfl rfl rfl FAesBack.agg27 ?_
              refine Plan.loadA1 h295 7 rfl rfl rfl FAesBack.agg27 ?_
              obtain ⟨x_298, hr297, hR⟩ := hR
              refine Plan.call (vs := [.pointer (some ⟨b0_20, 0, none⟩), AG [(16, fun q => VU .u8 (a2 q))]]) rfl FAesBack.call17 rfl (aes_Cipher_Decrypt_ok  hr297 h295) ?_
              rintro _ w299 ⟨rfl, h299⟩
              refine ⟨_, rfl, .inl ⟨PIn.keep (PIn.cons 7 rfl (PIn.cons 7 rfl (PIn.cons 7 rfl (PIn.cons 5 rfl PIn.nil)))) h299, ?_⟩⟩
              obtain ⟨x_301, hr300, hR⟩ := hR
              refine Plan.call (vs := [.pointer (some ⟨b0_20, 0, none⟩), AG [(16, fun q => VU .u8 (x_298 q))]]) rfl FAesBack.call15 rfl (aes_Cipher_Encrypt_ok  hr300 h299) ?_
              rintro _ w302 ⟨rfl, h302⟩
              refine ⟨_, rfl, .inl ⟨PIn.keep (PIn.cons 7 rfl (PIn.cons 7 rfl (PIn.cons 7 rfl (PIn.cons 5 rfl PIn.nil)))) h302, ?_⟩⟩
              by_cases hc303 : (eqB 16 x_301 a2) = true
              ·
                replace hR := ifT hR hc303
                refine Plan.neArrV (b := true) FAesBack.arrI27 rfl rfl rfl hc303 ?_
                refine Plan.pickFb rfl rfl rfl ?_
                refine Plan.move_bool rfl rfl ?_
                refine Plan.loadA1 h302 5 rfl rfl rfl FAesBack.agg27 ?_
                refine Plan.loadA1 h302 4 rfl rfl rfl FAesBack.agg27 ?_
                refine Plan.eqArrV (b := (eqB 16 x_128 x_266)) FAesBack.arrI27 rfl rfl rfl rfl ?_
                refine Plan.loadA1 h302 7 rfl rfl rfl FAesBack.agg27 ?_
                refine Plan.loadA1 h302 6 rfl rfl rfl FAesBack.agg27 ?_
                refine Plan.eqArrV (b := (eqB 16 a2 b3)) FAesBack.arrI27 rfl rfl rfl rfl ?_
                refine Plan.neBoolV (v := ((eqB 16 x_128 x_266) != (eqB 16 a2 b3))) FAesBack.bool4 rfl rfl rfl rfl ?_
                refine Plan.pickFb rfl rfl rfl ?_
                refine Plan.nil ?_
                refine hK290 _ _ ?_; clear hK290
                by_cases hc304 : ((eqB 16 x_128 x_266) != (eqB 16 a2 b3)) = true
                ·
                  replace hR := ifT hR hc304
                  refine W.condT (congrArg Value.bool hc304) ?_
                  refine W.seq_k fun K305 hK305 => ?_
                  refine W.regionT [(0, true)] (by kernel_rfl) ?_
                  refine Plan.assign_bool rfl rfl ?_
                  refine Plan.nil ?_
                  refine hK305 _ _ ?_; clear hK305
                  refine W.ret (thenR_ret (finR_ret ?_))
                  have h306 := St.pickT (C := [_, _, _, _, _, _, _, _, _]) h302 [] (by decide)
                  simp only [pick, List.filterMap_cons, List.filterMap_nil, List.getElem?_cons_zero, List.getElem?_cons_succ, List.cons_append, List.nil_append] at h306
                  subst r
                  refine RetOk.mk (.tmp_bool rfl .nil) ?_
                  exact ⟨rfl, h306⟩
                ·
                  replace hR := ifF hR hc304
                  refine W.condF (congrArg Value.bool (Bool.eq_false_iff.2 hc304)) ?_
                  refine W.skip ?_
                  refine hK271 _ _ ?_; clear hK271
                  refine W.seq_k fun K307 hK307 => ?_
                  refine W.regionT [(0, true), (1, false), (2, false), (3, true), (4, true), (5, true), (6, true), (7, false), (8, false), (9, true), (10, true), (11, true), (12, true), (13, true), (14, false), (15, true), (16, true), (17, true), (18, true)] (by kernel_rfl) ?_
                  refine Plan.move_int rfl rfl ?_
                  obtain ⟨x_309, hr308, hR⟩ := hR
                  refine Plan.call (vs := [VU .u8 x_4]) rfl FAesBack.call10 rfl (aes_Box_ok  hr308 h302) ?_
                  rintro _ w310 ⟨rfl, h310⟩
                  refine ⟨_, rfl, .inl ⟨PIn.keep PIn.nil h310, ?_⟩⟩
                  obtain ⟨x_312, hr311, hR⟩ := hR
                  refine Plan.call (vs := [VU .u8 x_309]) rfl FAesBack.call18 rfl (aes_Unbox_ok  hr311 h310) ?_
                  rintro _ w313 ⟨rfl, h313⟩
                  refine ⟨_, rfl, .inl ⟨PIn.keep PIn.nil h313, ?_⟩⟩
                  refine Plan.move_int rfl rfl ?_
                  by_cases hc314 : x_312 = x_4
                  ·
                    replace hR := ifT hR hc314
                    refine Plan.cmpV (a := (x_312.toNat : Int)) (b := (x_4.toNat : Int)) (p := x_312 = x_4) (v := true) rfl rfl rfl rfl icmp_eqU (decide_eq_true hc314) ?_
                    refine Plan.move_bool rfl rfl ?_
                    refine Plan.move_int rfl rfl ?_
                    obtain ⟨x_316, hr315, hR⟩ := hR
                    refine Plan.call (vs := [VU .u8 x_4]) rfl FAesBack.call18 rfl (aes_Unbox_ok  hr315 h313) ?_
                    rintro _ w317 ⟨rfl, h317⟩
                    refine ⟨_, rfl, .inl ⟨PIn.keep PIn.nil h317, ?_⟩⟩
                    obtain ⟨x_319, hr318, hR⟩ := hR
                    refine Plan.call (vs := [VU .u8 x_316]) rfl FAesBack.call10 rfl (aes_Box_ok  hr318 h317) ?_
                    rintro _ w320 ⟨rfl, h320⟩
                    refine ⟨_, rfl, .inl ⟨PIn.keep PIn.nil h320, ?_⟩⟩
                    refine Plan.move_int rfl rfl ?_
                    by_cases hc321 : x_319 = x_4
                    ·
                      replace hR := ifT hR hc321
                      refine Plan.cmpV (a := (x_319.toNat : Int)) (b := (x_4.toNat : Int)) (p := x_319 = x_4) (v := true) rfl rfl rfl rfl icmp_eqU (decide_eq_true hc321) ?_
                      refine Plan.pickTb rfl rfl rfl ?_
                      refine Plan.move_bool rfl rfl ?_
                      refine Plan.move_int rfl rfl ?_
                      obtain ⟨x_323, hr322, hR⟩ := hR
                      refine Plan.call (vs := [VU .u8 x_4]) rfl FAesBack.call10 rfl (aes_Box_ok  hr322 h320) ?_
                      rintro _ w324 ⟨rfl, h324⟩
                      refine ⟨_, rfl, .inl ⟨PIn.keep PIn.nil h324, ?_⟩⟩
                      refine Plan.move_int rfl rfl ?_
                      refine Plan.cmpP (a := (x_323.toNat : Int)) (b := (x_4.toNat : Int)) (p := x_323 ≠ x_4) rfl rfl rfl rfl icmp_neU ?_
                      refine Plan.pickTb rfl rfl rfl ?_
                      refine Plan.assign_bool rfl rfl ?_
                      refine Plan.nil ?_
                      refine hK307 _ _ ?_; clear hK307
                      refine W.ret (finR_ret ?_)
                      have h325 := St.pickT (C := [_, _, _, _, _, _, _, _, _]) h324 [] (by decide)
                      simp only [pick, List.filterMap_cons, List.filterMap_nil, List.getElem?_cons_zero, List.getElem?_cons_succ, List.cons_append, List.nil_append] at h325
                      subst r
                      refine RetOk.mk (.tmp_bool rfl .nil) ?_
                      exact ⟨rfl, h325⟩
                    ·
                      replace hR := ifF hR hc321
                      refine Plan.cmpV (a := (x_319.toNat : Int)) (b := (x_4.toNat : Int)) (p := x_319 = x_4) (v := false) rfl rfl rfl rfl icmp_eqU (decide_eq_false hc321) ?_
                      refine Plan.pickTb rfl rfl rfl ?_
                      refine Plan.move_bool rfl rfl ?_
                      refine Plan.passed rfl ?_
                      refine Plan.passed rfl ?_
                      refine Plan.passed rfl ?_
                      refine Plan.passed rfl ?_
                      refine Plan.pickFb rfl rfl rfl ?_
                      refine Plan.assign_bool rfl rfl ?_
                      refine Plan.nil ?_
                      refine hK307 _ _ ?_; clear hK307
                      refine W.ret (finR_ret ?_)
                      have h326 := St.pickT (C := [_, _, _, _, _, _, _, _, _]) h320 [] (by decide)
                      simp only [pick, List.filterMap_cons, List.filterMap_nil, List.getElem?_cons_zero, List.getElem?_cons_succ, List.cons_append, List.nil_append] at h326
                      subst r
                      refine RetOk.mk (.tmp_bool rfl .nil) ?_
                      exact ⟨rfl, h326⟩
                  ·
                    replace hR := ifF hR hc314
                    refine Plan.cmpV (a := (x_312.toNat : Int)) (b := (x_4.toNat : Int)) (p := x_312 = x_4) (v := false) rfl rfl rfl rfl icmp_eqU (decide_eq_false hc314) ?_
                    refine Plan.move_bool rfl rfl ?_
                    refine Plan.passed rfl ?_
                    refine Plan.passed rfl ?_
                    refine Plan.passed rfl ?_
                    refine Plan.passed rfl ?_
                    refine Plan.passed rfl ?_
                    refine Plan.pickFb rfl rfl rfl ?_
                    refine Plan.move_bool rfl rfl ?_
                    refine Plan.passed rfl ?_
                    refine Plan.passed rfl ?_
                    refine Plan.passed rfl ?_
                    refine Plan.passed rfl ?_
                    refine Plan.pickFb rfl rfl rfl ?_
                    refine Plan.assign_bool rfl rfl ?_
                    refine Plan.nil ?_
                    refine hK307 _ _ ?_; clear hK307
                    refine W.ret (finR_ret ?_)
                    have h327 := St.pickT (C := [_, _, _, _, _, _, _, _, _]) h313 [] (by decide)
                    simp only [pick, List.filterMap_cons, List.filterMap_nil, List.getElem?_cons_zero, List.getElem?_cons_succ, List.cons_append, List.nil_append] at h327
                    subst r
                    refine RetOk.mk (.tmp_bool rfl .nil) ?_
                    exact ⟨rfl, h327⟩
              ·
                replace hR := ifF hR hc303
                refine Plan.neArrV (b := false) FAesBack.arrI27 rfl rfl rfl (Bool.eq_false_iff.2 hc303) ?_
                refine Plan.pickFb rfl rfl rfl ?_
                refine Plan.move_bool rfl rfl ?_
                refine Plan.passed rfl ?_
                refine Plan.passed rfl ?_
                refine Plan.passed rfl ?_
                refine Plan.passed rfl ?_
                refine Plan.passed rfl ?_
                refine Plan.passed rfl ?_
                refine Plan.passed rfl ?_
                refine Plan.pickTb rfl rfl rfl ?_
                refine Plan.nil ?_
                refine hK290 _ _ ?_; clear hK290
                refine W.condT rfl ?_
                refine W.seq_k fun K328 hK328 => ?_
                refine W.regionT [(0, true)] (by kernel_rfl) ?_
                refine Plan.assign_bool rfl rfl ?_
                refine Plan.nil ?_
                refine hK328 _ _ ?_; clear hK328
                refine W.ret (thenR_ret (finR_ret ?_))
                have h329 := St.pickT (C := [_, _, _, _, _, _, _, _, _]) h302 [] (by decide)
                simp only [pick, List.filterMap_cons, List.filterMap_nil, List.getElem?_cons_zero, List.getElem?_cons_succ, List.cons_append, List.nil_append] at h329
                subst r
                refine RetOk.mk (.tmp_bool rfl .nil) ?_
                exact ⟨rfl, h329⟩
            ·
              replace hR := ifF hR hc296
              refine Plan.neArrV (b := false) FAesBack.arrI27 rfl rfl rfl (Bool.eq_false_iff.2 hc296) ?_
              refine Plan.move_bool rfl rfl ?_
              refine Plan.passed rfl ?_
              refine Plan.passed rfl ?_
              refine Plan.passed rfl ?_
              refine Plan.passed rfl ?_
              refine Plan.passed rfl ?_
              refine Plan.passed rfl ?_
              refine Plan.passed rfl ?_
              refine Plan.pickTb rfl rfl rfl ?_
              refine Plan.move_bool rfl rfl ?_
              refine Plan.passed rfl ?_
              refine Plan.passed rfl ?_
              refine Plan.passed rfl ?_
              refine Plan.passed rfl ?_
              refine Plan.passed rfl ?_
              refine Plan.passed rfl ?_
              refine Plan.passed rfl ?_
              refine Plan.pickTb rfl rfl rfl ?_
              refine Plan.nil ?_
              refine hK290 _ _ ?_; clear hK290
              refine W.condT rfl ?_
              refine W.seq_k fun K330 hK330 => ?_
              refine W.regionT [(0, true)] (by kernel_rfl) ?_
              refine Plan.assign_bool rfl rfl ?_
              refine Plan.nil ?_
              refine hK330 _ _ ?_; clear hK330
              refine W.ret (thenR_ret (finR_ret ?_))
              have h331 := St.pickT (C := [_, _, _, _, _, _, _, _, _]) h295 [] (by decide)
              simp only [pick, List.filterMap_cons, List.filterMap_nil, List.getElem?_cons_zero, List.getElem?_cons_succ, List.cons_append, List.nil_append] at h331
              subst r
              refine RetOk.mk (.tmp_bool rfl .nil) ?_
              exact ⟨rfl, h331⟩
          ·
            refine PlanT.toLine ?_
            refine Plan.alloc h263 rfl FAesBack.z27 (PIn.cons 5 rfl (PIn.cons 6 rfl PIn.nil)) fun b332 w332 hb332 h332 => ?_
            simp only [rngs, Nat.zero_add, Nat.reduceAdd, List.cons_append, List.nil_append] at h332
            have h333 := St.pickT (C := [_, _, _, _, _, _, _, _, _]) h332 [2, 3, 4, 5, 0, 1, 6, 7, 8] (by decide)
            simp only [pick, List.filterMap_cons, List.filterMap_nil, List.getElem?_cons_zero, List.getElem?_cons_succ, List.cons_append, List.nil_append] at h333
            obtain ⟨x_335, hr334, hR⟩ := hR
            refine Plan.call (vs := [.pointer (some ⟨b0_20, 0, none⟩), AG [(16, fun q => VU .u8 (b3 q))]]) rfl FAesBack.call15 rfl (aes_Cipher_Encrypt_ok  hr334 h333) ?_
            rintro _ w336 ⟨rfl, h336⟩
            refine ⟨_, rfl, .inl ⟨PIn.keep (PIn.cons 6 rfl (PIn.cons 7 rfl PIn.nil)) h336, ?_⟩⟩
            refine Plan.storeP (ps := [(16, fun q => VU .u8 (x_128 q))]) h336 rfl rfl rfl (.cons 5 rfl .nil) ⟨fun _ _ => rfl, trivial⟩ FAesBack.sz27 (EffO.keep (PIn.cons 6 rfl (PIn.cons 7 rfl PIn.nil))) fun w337 h337 => ?_
            simp only [List.set_cons_zero, List.set_cons_succ] at h337
            refine Plan.storeA (f' := fun q => VU .u8 (x_335 q)) h337 4 rfl rfl rfl rfl (fun _ _ => rfl) FAesBack.sz27 rfl fun w338 h338 => ?_
            simp only [List.set_cons_zero, List.set_cons_succ] at h338
            refine Plan.nil ?_
            refine hK24 _ _ ?_; clear hK24
            refine W.seq_k fun K339 hK339 => ?_
            refine W.seq_k fun K357 hK357 => ?_
            refine W.regionD FAesBack.mixed [(0, true), (1, true), (3, true), (2, false), (4, true), (5, true), (6, true), (7, true), (8, true), (11, true), (9, false), (10, false), (12, true), (13, true), (14, true), (15, true), (16, true), (17, true), (18, true), (19, true), (20, true), (21, true), (22, true)] (by kernel_rfl) ?_
            have h358 := h338.drew
            refine Plan.move_ptr rfl rfl ?_
            refine Plan.loadA1 h358 5 rfl rfl rfl FAesBack.agg27 ?_
            refine Plan.loadA1 h358 7 rfl rfl rfl FAesBack.agg27 ?_
            obtain ⟨x_360, hr359, hR⟩ := hR
            refine Plan.call (vs := [.pointer (some ⟨b0_20, 0, none⟩), AG [(16, fun q => VU .u8 (x_128 q))]]) rfl FAesBack.call17 rfl (aes_Cipher_Decrypt_ok  hr359 h358) ?_
            rintro _ w361 ⟨rfl, h361⟩
            refine ⟨_, rfl, .inl ⟨PIn.keep (PIn.cons 7 rfl (PIn.cons 5 rfl PIn.nil)) h361, ?_⟩⟩
            by_cases hc362 : (eqB 16 x_360 a2) = true
            ·
              replace hR := ifT hR hc362
              refine Plan.neArrV (b := true) FAesBack.arrI27 rfl rfl rfl hc362 ?_
              refine Plan.move_bool rfl rfl ?_
              refine Plan.move_ptr rfl rfl ?_
              refine Plan.move_ptr rfl rfl ?_
              refine Plan.loadA1 h361 7 rfl rfl rfl FAesBack.agg27 ?_
              refine Plan.loadA1 h361 7 rfl rfl rfl FAesBack.agg27 ?_
              obtain ⟨x_364, hr363, hR⟩ := hR
              refine Plan.call (vs := [.pointer (some ⟨b0_20, 0, none⟩), AG [(16, fun q => VU .u8 (a2 q))]]) rfl FAesBack.call17 rfl (aes_Cipher_Decrypt_ok  hr363 h361) ?_
              rintro _ w365 ⟨rfl, h365⟩
              refine ⟨_, rfl, .inl ⟨PIn.keep (PIn.cons 7 rfl (PIn.cons 7 rfl (PIn.cons 7 rfl (PIn.cons 5 rfl PIn.nil)))) h365, ?_⟩⟩
              obtain ⟨x_367, hr366, hR⟩ := hR
              refine Plan.call (vs := [.pointer (some ⟨b0_20, 0, none⟩), AG [(16, fun q => VU .u8 (x_364 q))]]) rfl FAesBack.call15 rfl (aes_Cipher_Encrypt_ok  hr366 h365) ?_
              rintro _ w368 ⟨rfl, h368⟩
              refine ⟨_, rfl, .inl ⟨PIn.keep (PIn.cons 7 rfl (PIn.cons 7 rfl (PIn.cons 7 rfl (PIn.cons 5 rfl PIn.nil)))) h368, ?_⟩⟩
              by_cases hc369 : (eqB 16 x_367 a2) = true
              ·
                replace hR := ifT hR hc369
                refine Plan.neArrV (b := true) FAesBack.arrI27 rfl rfl rfl hc369 ?_
                refine Plan.pickFb rfl rfl rfl ?_
                refine Plan.move_bool rfl rfl ?_
                refine Plan.loadA1 h368 5 rfl rfl rfl FAesBack.agg27 ?_
                refine Plan.loadA1 h368 4 rfl rfl rfl FAesBack.agg27 ?_
                refine Plan.eqArrV (b := (eqB 16 x_128 x_335)) FAesBack.arrI27 rfl rfl rfl rfl ?_
                refine Plan.loadA1 h368 7 rfl rfl rfl FAesBack.agg27 ?_
                refine Plan.loadA1 h368 6 rfl rfl rfl FAesBack.agg27 ?_
                refine Plan.eqArrV (b := (eqB 16 a2 b3)) FAesBack.arrI27 rfl rfl rfl rfl ?_
                refine Plan.neBoolV (v := ((eqB 16 x_128 x_335) != (eqB 16 a2 b3))) FAesBack.bool4 rfl rfl rfl rfl ?_
                refine Plan.pickFb rfl rfl rfl ?_
                refine Plan.nil ?_
                refine hK357 _ _ ?_; clear hK357
                by_cases hc370 : ((eqB 16 x_128 x_335) != (eqB 16 a2 b3)) = true
                ·
                  replace hR := ifT hR hc370
                  refine W.condT (congrArg Value.bool hc370) ?_
                  refine W.seq_k fun K371 hK371 => ?_
                  refine W.regionT [(0, true)] (by kernel_rfl) ?_
                  refine Plan.assign_bool rfl rfl ?_
                  refine Plan.nil ?_
                  refine hK371 _ _ ?_; clear hK371
                  refine W.ret (thenR_ret (finR_ret ?_))
                  have h372 := St.pickT (C := [_, _, _, _, _, _, _, _, _]) h368 [] (by decide)
                  simp only [pick, List.filterMap_cons, List.filterMap_nil, List.getElem?_cons_zero, List.getElem?_cons_succ, List.cons_append, List.nil_append] at h372
                  subst r
                  refine RetOk.mk (.tmp_bool rfl .nil) ?_
                  exact ⟨rfl, h372⟩
                ·
                  replace hR := ifF hR hc370
                  refine W.condF (congrArg Value.bool (Bool.eq_false_iff.2 hc370)) ?_
                  refine W.skip ?_
                  refine hK339 _ _ ?_; clear hK339
                  refine W.seq_k fun K373 hK373 => ?_
                  refine W.regionT [(0, true), (1, false), (2, false), (3, true), (4, true), (5, true), (6, true), (7, false), (8, false), (9, true), (10, true), (11, true), (12, true), (13, true), (14, false), (15, true), (16, true), (17, true), (18, true)] (by kernel_rfl) ?_
                  refine Plan.move_int rfl rfl ?_
                  obtain ⟨x_375, hr374, hR⟩ := hR
                  refine Plan.call (vs := [VU .u8 x_4]) rfl FAesBack.call10 rfl (aes_Box_ok  hr374 h368) ?_
                  rintro _ w376 ⟨rfl, h376⟩
                  refine ⟨_, rfl, .inl ⟨PIn.keep PIn.nil h376, ?_⟩⟩
                  obtain ⟨x_378, hr377, hR⟩ := hR
                  refine Plan.call (vs := [VU .u8 x_375]) rfl FAesBack.call18 rfl (aes_Unbox_ok  hr377 h376) ?_
                  rintro _ w379 ⟨rfl, h379⟩
                  refine ⟨_, rfl, .inl ⟨PIn.keep PIn.nil h379, ?_⟩⟩
                  refine Plan.move_int rfl rfl ?_
                  by_cases hc380 : x_378 = x_4
                  ·
                    replace hR := ifT hR hc380
                    refine Plan.cmpV (a := (x_378.toNat : Int)) (b := (x_4.toNat : Int)) (p := x_378 = x_4) (v := true) rfl rfl rfl rfl icmp_eqU (decide_eq_true hc380) ?_
                    refine Plan.move_bool rfl rfl ?_
                    refine Plan.move_int rfl rfl ?_
                    obtain ⟨x_382, hr381, hR⟩ := hR
                    refine Plan.call (vs := [VU .u8 x_4]) rfl FAesBack.call18 rfl (aes_Unbox_ok  hr381 h379) ?_
                    rintro _ w383 ⟨rfl, h383⟩
                    refine ⟨_, rfl, .inl ⟨PIn.keep PIn.nil h383, ?_⟩⟩
                    obtain ⟨x_385, hr384, hR⟩ := hR
                    refine Plan.call (vs := [VU .u8 x_382]) rfl FAesBack.call10 rfl (aes_Box_ok  hr384 h383) ?_
                    rintro _ w386 ⟨rfl, h386⟩
                    refine ⟨_, rfl, .inl ⟨PIn.keep PIn.nil h386, ?_⟩⟩
                    refine Plan.move_int rfl rfl ?_
                    by_cases hc387 : x_385 = x_4
                    ·
                      replace hR := ifT hR hc387
                      refine Plan.cmpV (a := (x_385.toNat : Int)) (b := (x_4.toNat : Int)) (p := x_385 = x_4) (v := true) rfl rfl rfl rfl icmp_eqU (decide_eq_true hc387) ?_
                      refine Plan.pickTb rfl rfl rfl ?_
                      refine Plan.move_bool rfl rfl ?_
                      refine Plan.move_int rfl rfl ?_
                      obtain ⟨x_389, hr388, hR⟩ := hR
                      refine Plan.call (vs := [VU .u8 x_4]) rfl FAesBack.call10 rfl (aes_Box_ok  hr388 h386) ?_
                      rintro _ w390 ⟨rfl, h390⟩
                      refine ⟨_, rfl, .inl ⟨PIn.keep PIn.nil h390, ?_⟩⟩
                      refine Plan.move_int rfl rfl ?_
                      refine Plan.cmpP (a := (x_389.toNat : Int)) (b := (x_4.toNat : Int)) (p := x_389 ≠ x_4) rfl rfl rfl rfl icmp_neU ?_
                      refine Plan.pickTb rfl rfl rfl ?_
                      refine Plan.assign_bool rfl rfl ?_
                      refine Plan.nil ?_
                      refine hK373 _ _ ?_; clear hK373
                      refine W.ret (finR_ret ?_)
                      have h391 := St.pickT (C := [_, _, _, _, _, _, _, _, _]) h390 [] (by decide)
                      simp only [pick, List.filterMap_cons, List.filterMap_nil, List.getElem?_cons_zero, List.getElem?_cons_succ, List.cons_append, List.nil_append] at h391
                      subst r
                      refine RetOk.mk (.tmp_bool rfl .nil) ?_
                      exact ⟨rfl, h391⟩
                    ·
                      replace hR := ifF hR hc387
                      refine Plan.cmpV (a := (x_385.toNat : Int)) (b := (x_4.toNat : Int)) (p := x_385 = x_4) (v := false) rfl rfl rfl rfl icmp_eqU (decide_eq_false hc387) ?_
                      refine Plan.pickTb rfl rfl rfl ?_
                      refine Plan.move_bool rfl rfl ?_
                      refine Plan.passed rfl ?_
                      refine Plan.passed rfl ?_
                      refine Plan.passed rfl ?_
                      refine Plan.passed rfl ?_
                      refine Plan.pickFb rfl rfl rfl ?_
                      refine Plan.assign_bool rfl rfl ?_
                      refine Plan.nil ?_
                      refine hK373 _ _ ?_; clear hK373
                      refine W.ret (finR_ret ?_)
                      have h392 := St.pickT (C := [_, _, _, _, _, _, _, _, _]) h386 [] (by decide)
                      simp only [pick, List.filterMap_cons, List.filterMap_nil, List.getElem?_cons_zero, List.getElem?_cons_succ, List.cons_append, List.nil_append] at h392
                      subst r
                      refine RetOk.mk (.tmp_bool rfl .nil) ?_
                      exact ⟨rfl, h392⟩
                  ·
                    replace hR := ifF hR hc380
                    refine Plan.cmpV (a := (x_378.toNat : Int)) (b := (x_4.toNat : Int)) (p := x_378 = x_4) (v := false) rfl rfl rfl rfl icmp_eqU (decide_eq_false hc380) ?_
                    refine Plan.move_bool rfl rfl ?_
                    refine Plan.passed rfl ?_
                    refine Plan.passed rfl ?_
                    refine Plan.passed rfl ?_
                    refine Plan.passed rfl ?_
                    refine Plan.passed rfl ?_
                    refine Plan.pickFb rfl rfl rfl ?_
                    refine Plan.move_bool rfl rfl ?_
                    refine Plan.passed rfl ?_
                    refine Plan.passed rfl ?_
                    refine Plan.passed rfl ?_
                    refine Plan.passed rfl ?_
                    refine Plan.pickFb rfl rfl rfl ?_
                    refine Plan.assign_bool rfl rfl ?_
                    refine Plan.nil ?_
                    refine hK373 _ _ ?_; clear hK373
                    refine W.ret (finR_ret ?_)
                    have h393 := St.pickT (C := [_, _, _, _, _, _, _, _, _]) h379 [] (by decide)
                    simp only [pick, List.filterMap_cons, List.filterMap_nil, List.getElem?_cons_zero, List.getElem?_cons_succ, List.cons_append, List.nil_append] at h393
                    subst r
                    refine RetOk.mk (.tmp_bool rfl .nil) ?_
                    exact ⟨rfl, h393⟩
              ·
                replace hR := ifF hR hc369
                refine Plan.neArrV (b := false) FAesBack.arrI27 rfl rfl rfl (Bool.eq_false_iff.2 hc369) ?_
                refine Plan.pickFb rfl rfl rfl ?_
                refine Plan.move_bool rfl rfl ?_
                refine Plan.passed rfl ?_
                refine Plan.passed rfl ?_
                refine Plan.passed rfl ?_
                refine Plan.passed rfl ?_
                refine Plan.passed rfl ?_
                refine Plan.passed rfl ?_
                refine Plan.passed rfl ?_
                refine Plan.pickTb rfl rfl rfl ?_
                refine Plan.nil ?_
                refine hK357 _ _ ?_; clear hK357
                refine W.condT rfl ?_
                refine W.seq_k fun K394 hK394 => ?_
                refine W.regionT [(0, true)] (by kernel_rfl) ?_
                refine Plan.assign_bool rfl rfl ?_
                refine Plan.nil ?_
                refine hK394 _ _ ?_; clear hK394
                refine W.ret (thenR_ret (finR_ret ?_))
                have h395 := St.pickT (C := [_, _, _, _, _, _, _, _, _]) h368 [] (by decide)
                simp only [pick, List.filterMap_cons, List.filterMap_nil, List.getElem?_cons_zero, List.getElem?_cons_succ, List.cons_append, List.nil_append] at h395
                subst r
                refine RetOk.mk (.tmp_bool rfl .nil) ?_
                exact ⟨rfl, h395⟩
            ·
              replace hR := ifF hR hc362
              refine Plan.neArrV (b := false) FAesBack.arrI27 rfl rfl rfl (Bool.eq_false_iff.2 hc362) ?_
              refine Plan.move_bool rfl rfl ?_
              refine Plan.passed rfl ?_
              refine Plan.passed rfl ?_
              refine Plan.passed rfl ?_
              refine Plan.passed rfl ?_
              refine Plan.passed rfl ?_
              refine Plan.passed rfl ?_
              refine Plan.passed rfl ?_
              refine Plan.pickTb rfl rfl rfl ?_
              refine Plan.move_bool rfl rfl ?_
              refine Plan.passed rfl ?_
              refine Plan.passed rfl ?_
              refine Plan.passed rfl ?_
              refine Plan.passed rfl ?_
              refine Plan.passed rfl ?_
              refine Plan.passed rfl ?_
              refine Plan.passed rfl ?_
              refine Plan.pickTb rfl rfl rfl ?_
              refine Plan.nil ?_
              refine hK357 _ _ ?_; clear hK357
              refine W.condT rfl ?_
              refine W.seq_k fun K396 hK396 => ?_
              refine W.regionT [(0, true)] (by kernel_rfl) ?_
              refine Plan.assign_bool rfl rfl ?_
              refine Plan.nil ?_
              refine hK396 _ _ ?_; clear hK396
              refine W.ret (thenR_ret (finR_ret ?_))
              have h397 := St.pickT (C := [_, _, _, _, _, _, _, _, _]) h361 [] (by decide)
              simp only [pick, List.filterMap_cons, List.filterMap_nil, List.getElem?_cons_zero, List.getElem?_cons_succ, List.cons_append, List.nil_append] at h397
              subst r
              refine RetOk.mk (.tmp_bool rfl .nil) ?_
              exact ⟨rfl, h397⟩
        ·
          refine PlanT.toFork ?_
          refine Plan.alloc h129 rfl FAesBack.z27 (PIn.cons 4 rfl (PIn.cons 5 rfl PIn.nil)) fun b398 w398 hb398 h398 => ?_
          simp only [rngs, Nat.zero_add, Nat.reduceAdd, List.cons_append, List.nil_append] at h398
          refine Plan.forked ?_ ?_
          ·
            refine PlanT.toLine ?_
            have h399 := St.pickT (C := [_, _, _, _, _, _, _, _]) h398 [1, 2, 3, 4, 0, 5, 6, 7] (by decide)
            simp only [pick, List.filterMap_cons, List.filterMap_nil, List.getElem?_cons_zero, List.getElem?_cons_succ, List.cons_append, List.nil_append] at h399
            obtain ⟨x_401, hr400, hR⟩ := hR
            refine Plan.call (vs := [.pointer (some ⟨b0_20, 0, none⟩), AG [(16, fun q => VU .u8 (b3 q))]]) rfl FAesBack.call15 rfl (aes_Cipher_Encrypt_ok  hr400 h399) ?_
            rintro _ w402 ⟨rfl, h402⟩
            refine ⟨_, rfl, .inl ⟨PIn.keep (PIn.cons 5 rfl (PIn.cons 6 rfl PIn.nil)) h402, ?_⟩⟩
            refine Plan.alloc h402 rfl FAesBack.z27 (PIn.cons 5 rfl (PIn.cons 6 rfl PIn.nil)) fun b403 w403 hb403 h403 => ?_
            simp only [rngs, Nat.zero_add, Nat.reduceAdd, List.cons_append, List.nil_append] at h403
            refine Plan.storeP (ps := [(16, fun q => VU .u8 (x_128 q))]) h403 rfl rfl rfl (.cons 0 rfl .nil) ⟨fun _ _ => rfl, trivial⟩ FAesBack.sz27 (EffO.keep (PIn.cons 6 rfl (PIn.cons 7 rfl PIn.nil))) fun w404 h404 => ?_
            simp only [List.set_cons_zero, List.set_cons_succ] at h404
            refine Plan.storeA (f' := fun q => VU .u8 (x_401 q)) h404 5 rfl rfl rfl rfl (fun _ _ => rfl) FAesBack.sz27 rfl fun w405 h405 => ?_
            simp only [List.set_cons_zero, List.set_cons_succ] at h405
            refine Plan.nil ?_
            refine hK24 _ _ ?_; clear hK24
            refine W.seq_k fun K406 hK406 => ?_
            refine W.seq_k fun K425 hK425 => ?_
            refine W.regionD FAesBack.mixed [(0, true), (1, true), (3, true), (2, false), (4, true), (5, true), (6, true), (7, true), (8, true), (11, true), (9, false), (10, false), (12, true), (13, true), (14, true), (15, true), (16, true), (17, true), (18, true), (19, true), (20, true), (21, true), (22, true)] (by kernel_rfl) ?_
            have h426 := h405.drew
            refine Plan.move_ptr rfl rfl ?_
            refine Plan.loadA1 h426 0 rfl rfl rfl FAesBack.agg27 ?_
            refine Plan.loadA1 h426 7 rfl rfl rfl FAesBack.agg27 ?_
            have h427 := St.pickT (C := [_, _, _, _, _, _, _, _, _]) h426 [1, 2, 3, 4, 0, 5, 6, 7, 8] (by decide)
            simp only [pick, List.filterMap_cons, List.filterMap_nil, List.getElem?_cons_zero, List.getElem?_cons_succ, List.cons_append, List.nil_append] at h427
            obtain ⟨x_429, hr428, hR⟩ := hR
            refine Plan.call (vs := [.pointer (some ⟨b0_20, 0, none⟩), AG [(16, fun q => VU .u8 (x_128 q))]]) rfl FAesBack.call17 rfl (aes_Cipher_Decrypt_ok  hr428 h427) ?_
            rintro _ w430 ⟨rfl, h430⟩
            refine ⟨_, rfl, .inl ⟨PIn.keep (PIn.cons 7 rfl (PIn.cons 4 rfl PIn.nil)) h430, ?_⟩⟩
            by_cases hc431 : (eqB 16 x_429 a2) = true
            ·
              replace hR := ifT hR hc431
              refine Plan.neArrV (b := true) FAesBack.arrI27 rfl rfl rfl hc431 ?_
              refine Plan.move_bool rfl rfl ?_
              refine Plan.move_ptr rfl rfl ?_
              refine Plan.move_ptr rfl rfl ?_
              refine Plan.loadA1 h430 7 rfl rfl rfl FAesBack.agg27 ?_
              refine Plan.loadA1 h430 7 rfl rfl rfl FAesBack.agg27 ?_
              obtain ⟨x_433, hr432, hR⟩ := hR
              refine Plan.call (vs := [.pointer (some ⟨b0_20, 0, none⟩), AG [(16, fun q => VU .u8 (a2 q))]]) rfl FAesBack.call17 rfl (aes_Cipher_Decrypt_ok  hr432 h430) ?_
              rintro _ w434 ⟨rfl, h434⟩
              refine ⟨_, rfl, .inl ⟨PIn.keep (PIn.cons 7 rfl (PIn.cons 7 rfl (PIn.cons 7 rfl (PIn.cons 4 rfl PIn.nil)))) h434, ?_⟩⟩
              obtain ⟨x_436, hr435, hR⟩ := hR
              refine Plan.call (vs := [.pointer (some ⟨b0_20, 0, none⟩), AG [(16, fun q => VU .u8 (x_433 q))]]) rfl FAesBack.call15 rfl (aes_Cipher_Encrypt_ok  hr435 h434) ?_
              rintro _ w437 ⟨rfl, h437⟩
              refine ⟨_, rfl, .inl ⟨PIn.keep (PIn.cons 7 rfl (PIn.cons 7 rfl (PIn.cons 7 rfl (PIn.cons 4 rfl PIn.nil)))) h437, ?_⟩⟩
              by_cases hc438 : (eqB 16 x_436 a2) = true
              ·
                replace hR := ifT hR hc438
                refine Plan.neArrV (b := true) FAesBack.arrI27 rfl rfl rfl hc438 ?_
                refine Plan.pickFb rfl rfl rfl ?_
                refine Plan.move_bool rfl rfl ?_
                refine Plan.loadA1 h437 4 rfl rfl rfl FAesBack.agg27 ?_
                refine Plan.loadA1 h437 5 rfl rfl rfl FAesBack.agg27 ?_
                refine Plan.eqArrV (b := (eqB 16 x_128 x_401)) FAesBack.arrI27 rfl rfl rfl rfl ?_
                refine Plan.loadA1 h437 7 rfl rfl rfl FAesBack.agg27 ?_
                refine Plan.loadA1 h437 6 rfl rfl rfl FAesBack.agg27 ?_
                refine Plan.eqArrV (b := (eqB 16 a2 b3)) FAesBack.arrI27 rfl rfl rfl rfl ?_
                refine Plan.neBoolV (v := ((eqB 16 x_128 x_401) != (eqB 16 a2 b3))) FAesBack.bool4 rfl rfl rfl rfl ?_
                refine Plan.pickFb rfl rfl rfl ?_
                refine Plan.nil ?_
                refine hK425 _ _ ?_; clear hK425
                by_cases hc439 : ((eqB 16 x_128 x_401) != (eqB 16 a2 b3)) = true
                ·
                  replace hR := ifT hR hc439
                  refine W.condT (congrArg Value.bool hc439) ?_
                  refine W.seq_k fun K440 hK440 => ?_
                  refine W.regionT [(0, true)] (by kernel_rfl) ?_
                  refine Plan.assign_bool rfl rfl ?_
                  refine Plan.nil ?_
                  refine hK440 _ _ ?_; clear hK440
                  refine W.ret (thenR_ret (finR_ret ?_))
                  have h441 := St.pickT (C := [_, _, _, _, _, _, _, _, _]) h437 [] (by decide)
                  simp only [pick, List.filterMap_cons, List.filterMap_nil, List.getElem?_cons_zero, List.getElem?_cons_succ, List.cons_append, List.nil_append] at h441
                  subst r
                  refine RetOk.mk (.tmp_bool rfl .nil) ?_
                  exact ⟨rfl, h441⟩
                ·
                  replace hR := ifF hR hc439
                  refine W.condF (congrArg Value.bool (Bool.eq_false_iff.2 hc439)) ?_
                  refine W.skip ?_
                  refine hK406 _ _ ?_; clear hK406
                  refine W.seq_k fun K442 hK442 => ?_
                  refine W.regionT [(0, true), (1, false), (2, false), (3, true), (4, true), (5, true), (6, true), (7, false), (8, false), (9, true), (10, true), (11, true), (12, true), (13, true), (14, false), (15, true), (16, true), (17, true), (18, true)] (by kernel_rfl) ?_
                  refine Plan.move_int rfl rfl ?_
                  obtain ⟨x_444, hr443, hR⟩ := hR
                  refine Plan.call (vs := [VU .u8 x_4]) rfl FAesBack.call10 rfl (aes_Box_ok  hr443 h437) ?_
                  rintro _ w445 ⟨rfl, h445⟩
                  refine ⟨_, rfl, .inl ⟨PIn.keep PIn.nil h445, ?_⟩⟩
                  obtain ⟨x_447, hr446, hR⟩ := hR
                  refine Plan.call (vs := [VU .u8 x_444]) rfl FAesBack.call18 rfl (aes_Unbox_ok  hr446 h445) ?_
                  rintro _ w448 ⟨rfl, h448⟩
                  refine ⟨_, rfl, .inl ⟨PIn.keep PIn.nil h448, ?_⟩⟩
                  refine Plan.move_int rfl rfl ?_
                  by_cases hc449 : x_447 = x_4
                  ·
                    replace hR := ifT hR hc449
                    refine Plan.cmpV (a := (x_447.toNat : Int)) (b := (x_4.toNat : Int)) (p := x_447 = x_4) (v := true) rfl rfl rfl rfl icmp_eqU (decide_eq_true hc449) ?_
                    refine Plan.move_bool rfl rfl ?_
                    refine Plan.move_int rfl rfl ?_
                    obtain ⟨x_451, hr450, hR⟩ := hR
                    refine Plan.call (vs := [VU .u8 x_4]) rfl FAesBack.call18 rfl (aes_Unbox_ok  hr450 h448) ?_
                    rintro _ w452 ⟨rfl, h452⟩
                    refine ⟨_, rfl, .inl ⟨PIn.keep PIn.nil h452, ?_⟩⟩
                    obtain ⟨x_454, hr453, hR⟩ := hR
                    refine Plan.call (vs := [VU .u8 x_451]) rfl FAesBack.call10 rfl (aes_Box_ok  hr453 h452) ?_
                    rintro _ w455 ⟨rfl, h455⟩
                    refine ⟨_, rfl, .inl ⟨PIn.keep PIn.nil h455, ?_⟩⟩
                    refine Plan.move_int rfl rfl ?_
                    by_cases hc456 : x_454 = x_4
                    ·
                      replace hR := ifT hR hc456
                      refine Plan.cmpV (a := (x_454.toNat : Int)) (b := (x_4.toNat : Int)) (p := x_454 = x_4) (v := true) rfl rfl rfl rfl icmp_eqU (decide_eq_true hc456) ?_
                      refine Plan.pickTb rfl rfl rfl ?_
                      refine Plan.move_bool rfl rfl ?_
                      refine Plan.move_int rfl rfl ?_
                      obtain ⟨x_458, hr457, hR⟩ := hR
                      refine Plan.call (vs := [VU .u8 x_4]) rfl FAesBack.call10 rfl (aes_Box_ok  hr457 h455) ?_
                      rintro _ w459 ⟨rfl, h459⟩
                      refine ⟨_, rfl, .inl ⟨PIn.keep PIn.nil h459, ?_⟩⟩
                      refine Plan.move_int rfl rfl ?_
                      refine Plan.cmpP (a := (x_458.toNat : Int)) (b := (x_4.toNat : Int)) (p := x_458 ≠ x_4) rfl rfl rfl rfl icmp_neU ?_
                      refine Plan.pickTb rfl rfl rfl ?_
                      refine Plan.assign_bool rfl rfl ?_
                      refine Plan.nil ?_
                      refine hK442 _ _ ?_; clear hK442
                      refine W.ret (finR_ret ?_)
                      have h460 := St.pickT (C := [_, _, _, _, _, _, _, _, _]) h459 [] (by decide)
                      simp only [pick, List.filterMap_cons, List.filterMap_nil, List.getElem?_cons_zero, List.getElem?_cons_succ, List.cons_append, List.nil_append] at h460
                      subst r
                      refine RetOk.mk (.tmp_bool rfl .nil) ?_
                      exact ⟨rfl, h460⟩
                    ·
                      replace hR := ifF hR hc456
                      refine Plan.cmpV (a := (x_454.toNat : Int)) (b := (x_4.toNat : Int)) (p := x_454 = x_4) (v := false) rfl rfl rfl rfl icmp_eqU (decide_eq_false hc456) ?_
                      refine Plan.pickTb rfl rfl rfl ?_
                      refine Plan.move_bool rfl rfl ?_
                      refine Plan.passed rfl ?_
                      refine Plan.passed rfl ?_
                      refine Plan.passed rfl ?_
                      refine Plan.passed rfl ?_
                      refine Plan.pickFb rfl rfl rfl ?_
                      refine Plan.assign_bool rfl rfl ?_
                      refine Plan.nil ?_
                      refine hK442 _ _ ?_; clear hK442
                      refine W.ret (finR_ret ?_)
                      have h461 := St.pickT (C := [_, _, _, _, _, _, _, _, _]) h455 [] (by decide)
                      simp only [pick, List.filterMap_cons, List.filterMap_nil, List.getElem?_cons_zero, List.getElem?_cons_succ, List.cons_append, List.nil_append] at h461
                      subst r
                      refine RetOk.mk (.tmp_bool rfl .nil) ?_
                      exact ⟨rfl, h461⟩
                  ·
                    replace hR := ifF hR hc449
                    refine Plan.cmpV (a := (x_447.toNat : Int)) (b := (x_4.toNat : Int)) (p := x_447 = x_4) (v := false) rfl rfl rfl rfl icmp_eqU (decide_eq_false hc449) ?_
                    refine Plan.move_bool rfl rfl ?_
                    refine Plan.passed rfl ?_
                    refine Plan.passed rfl ?_
                    refine Plan.passed rfl ?_
                    refine Plan.passed rfl ?_
                    refine Plan.passed rfl ?_
                    refine Plan.pickFb rfl rfl rfl ?_
                    refine Plan.move_bool rfl rfl ?_
                    refine Plan.passed rfl ?_
                    refine Plan.passed rfl ?_
                    refine Plan.passed rfl ?_
                    refine Plan.passed rfl ?_
                    refine Plan.pickFb rfl rfl rfl ?_
                    refine Plan.assign_bool rfl rfl ?_
                    refine Plan.nil ?_
                    refine hK442 _ _ ?_; clear hK442
                    refine W.ret (finR_ret ?_)
                    have h462 := St.pickT (C := [_, _, _, _, _, _, _, _, _]) h448 [] (by decide)
                    simp only [pick, List.filterMap_cons, List.filterMap_nil, List.getElem?_cons_zero, List.getElem?_cons_succ, List.cons_append, List.nil_append] at h462
                    subst r
                    refine RetOk.mk (.tmp_bool rfl .nil) ?_
                    exact ⟨rfl, h462⟩
              ·
                replace hR := ifF hR hc438
                refine Plan.neArrV (b := false) FAesBack.arrI27 rfl rfl rfl (Bool.eq_false_iff.2 hc438) ?_
                refine Plan.pickFb rfl rfl rfl ?_
                refine Plan.move_bool rfl rfl ?_
                refine Plan.passed rfl ?_
                refine Plan.passed rfl ?_
                refine Plan.passed rfl ?_
                refine Plan.passed rfl ?_
                refine Plan.passed rfl ?_
                refine Plan.passed rfl ?_
                refine Plan.passed rfl ?_
                refine Plan.pickTb rfl rfl rfl ?_
                refine Plan.nil ?_
                refine hK425 _ _ ?_; clear hK425
                refine W.condT rfl ?_
                refine W.seq_k fun K463 hK463 => ?_
                refine W.regionT [(0, true)] (by kernel_rfl) ?_
                refine Plan.assign_bool rfl rfl ?_
                refine Plan.nil ?_
                refine hK463 _ _ ?_; clear hK463
                refine W.ret (thenR_ret (finR_ret ?_))
                have h464 := St.pickT (C := [_, _, _, _, _, _, _, _, _]) h437 [] (by decide)
                simp only [pick, List.filterMap_cons, List.filterMap_nil, List.getElem?_cons_zero, List.getElem?_cons_succ, List.cons_append, List.nil_append] at h464
                subst r
                refine RetOk.mk (.tmp_bool rfl .nil) ?_
                exact ⟨rfl, h464⟩
            ·
              replace hR := ifF hR hc431
              refine Plan.neArrV (b := false) FAesBack.arrI27 rfl rfl rfl (Bool.eq_false_iff.2 hc431) ?_
              refine Plan.move_bool rfl rfl ?_
              refine Plan.passed rfl ?_
              refine Plan.passed rfl ?_
              refine Plan.passed rfl ?_
              refine Plan.passed rfl ?_
              refine Plan.passed rfl ?_
              refine Plan.passed rfl ?_
              refine Plan.passed rfl ?_
              refine Plan.pickTb rfl rfl rfl ?_
              refine Plan.move_bool rfl rfl ?_
              refine Plan.passed rfl ?_
              refine Plan.passed rfl ?_
              refine Plan.passed rfl ?_
              refine Plan.passed rfl ?_
              refine Plan.passed rfl ?_
              refine Plan.passed rfl ?_
              refine Plan.passed rfl ?_
              refine Plan.pickTb rfl rfl rfl ?_
              refine Plan.nil ?_
              refine hK425 _ _ ?_; clear hK425
              refine W.condT rfl ?_
              refine W.seq_k fun K465 hK465 => ?_
              refine W.regionT [(0, true)] (by kernel_rfl) ?_
              refine Plan.assign_bool rfl rfl ?_
              refine Plan.nil ?_
              refine hK465 _ _ ?_; clear hK465
              refine W.ret (thenR_ret (finR_ret ?_))
              have h466 := St.pickT (C := [_, _, _, _, _, _, _, _, _]) h430 [] (by decide)
              simp only [pick, List.filterMap_cons, List.filterMap_nil, List.getElem?_cons_zero, List.getElem?_cons_succ, List.cons_append, List.nil_append] at h466
              subst r
              refine RetOk.mk (.tmp_bool rfl .nil) ?_
              exact ⟨rfl, h466⟩
          ·
            refine PlanT.toLine ?_
            refine Plan.alloc h398 rfl FAesBack.z27 (PIn.cons 5 rfl (PIn.cons 6 rfl PIn.nil)) fun b467 w467 hb467 h467 => ?_
            simp only [rngs, Nat.zero_add, Nat.reduceAdd, List.cons_append, List.nil_append] at h467
            have h468 := St.pickT (C := [_, _, _, _, _, _, _, _, _]) h467 [2, 3, 4, 5, 0, 1, 6, 7, 8] (by decide)
            simp only [pick, List.filterMap_cons, List.filterMap_nil, List.getElem?_cons_zero, List.getElem?_cons_succ, List.cons_append, List.nil_append] at h468
            obtain ⟨x_470, hr469, hR⟩ := hR
            refine Plan.call (vs := [.pointer (some ⟨b0_20, 0, none⟩), AG [(16, fun q => VU .u8 (b3 q))]]) rfl FAesBack.call15 rfl (aes_Cipher_Encrypt_ok  hr469 h468) ?_
            rintro _ w471 ⟨rfl, h471⟩
            refine ⟨_, rfl, .inl ⟨PIn.keep (PIn.cons 6 rfl (PIn.cons 7 rfl PIn.nil)) h471, ?_⟩⟩
            refine Plan.storeP (ps := [(16, fun q => VU .u8 (x_128 q))]) h471 rfl rfl rfl (.cons 4 rfl .nil) ⟨fun _ _ => rfl, trivial⟩ FAesBack.sz27 (EffO.keep (PIn.cons 6 rfl (PIn.cons 7 rfl PIn.nil))) fun w472 h472 => ?_
            simp only [List.set_cons_zero, List.set_cons_succ] at h472
            refine Plan.storeA (f' := fun q => VU .u8 (x_470 q)) h472 5 rfl rfl rfl rfl (fun _ _ => rfl) FAesBack.sz27 rfl fun w473 h473 => ?_
            simp only [List.set_cons_zero, List.set_cons_succ] at h473
            refine Plan.nil ?_
            refine hK24 _ _ ?_; clear hK24
            refine W.seq_k fun K474 hK474 => ?_
            refine W.seq_k fun K492 hK492 => ?_
            refine W.regionD FAesBack.mixed [(0, true), (1, true), (3, true), (2, false), (4, true), (5, true), (6, true), (7, true), (8, true), (11, true), (9, false), (10, false), (12, true), (13, true), (14, true), (15, true), (16, true), (17, true), (18, true), (19, true), (20, true), (21, true), (22, true)] (by kernel_rfl) ?_
            have h493 := h473.drew
            refine Plan.move_ptr rfl rfl ?_
            refine Plan.loadA1 h493 4 rfl rfl rfl FAesBack.agg27 ?_
            refine Plan.loadA1 h493 7 rfl rfl rfl FAesBack.agg27 ?_
            obtain ⟨x_495, hr494, hR⟩ := hR
            refine Plan.call (vs := [.pointer (some ⟨b0_20, 0, none⟩), AG [(16, fun q => VU .u8 (x_128 q))]]) rfl FAesBack.call17 rfl (aes_Cipher_Decrypt_ok  hr494 h493) ?_
            rintro _ w496 ⟨rfl, h496⟩
            refine ⟨_, rfl, .inl ⟨PIn.keep (PIn.cons 7 rfl (PIn.cons 4 rfl PIn.nil)) h496, ?_⟩⟩
            by_cases hc497 : (eqB 16 x_495 a2) = true
            ·
              replace hR := ifT hR hc497
              refine Plan.neArrV (b := true) FAesBack.arrI27 rfl rfl rfl hc497 ?_
              refine Plan.move_bool rfl rfl ?_
              refine Plan.move_ptr rfl rfl ?_
              refine Plan.move_ptr rfl rfl ?_
              refine Plan.loadA1 h496 7 rfl rfl rfl FAesBack.agg27 ?_
              refine Plan.loadA1 h496 7 rfl rfl rfl FAesBack.agg27 ?_
              obtain ⟨x_499, hr498, hR⟩ := hR
              refine Plan.call (vs := [.pointer (some ⟨b0_20, 0, none⟩), AG [(16, fun q => VU .u8 (a2 q))]]) rfl FAesBack.call17 rfl (aes_Cipher_Decrypt_ok  hr498 h496) ?_
              rintro _ w500 ⟨rfl, h500⟩
              refine ⟨_, rfl, .inl ⟨PIn.keep (PIn.cons 7 rfl (PIn.cons 7 rfl (PIn.cons 7 rfl (PIn.cons 4 rfl PIn.nil)))) h500, ?_⟩⟩
              obtain ⟨x_502, hr501, hR⟩ := hR
              refine Plan.call (vs := [.pointer (some ⟨b0_20, 0, none⟩), AG [(16, fun q => VU .u8 (x_499 q))]]) rfl FAesBack.call15 rfl (aes_Cipher_Encrypt_ok  hr501 h500) ?_
              rintro _ w503 ⟨rfl, h503⟩
              refine ⟨_, rfl, .inl ⟨PIn.keep (PIn.cons 7 rfl (PIn.cons 7 rfl (PIn.cons 7 rfl (PIn.cons 4 rfl PIn.nil)))) h503, ?_⟩⟩
              by_cases hc504 : (eqB 16 x_502 a2) = true
              ·
                replace hR := ifT hR hc504
                refine Plan.neArrV (b := true) FAesBack.arrI27 rfl rfl rfl hc504 ?_
                refine Plan.pickFb rfl rfl rfl ?_
                refine Plan.move_bool rfl rfl ?_
                refine Plan.loadA1 h503 4 rfl rfl rfl FAesBack.agg27 ?_
                refine Plan.loadA1 h503 5 rfl rfl rfl FAesBack.agg27 ?_
                refine Plan.eqArrV (b := (eqB 16 x_128 x_470)) FAesBack.arrI27 rfl rfl rfl rfl ?_
                refine Plan.loadA1 h503 7 rfl rfl rfl FAesBack.agg27 ?_
                refine Plan.loadA1 h503 6 rfl rfl rfl FAesBack.agg27 ?_
                refine Plan.eqArrV (b := (eqB 16 a2 b3)) FAesBack.arrI27 rfl rfl rfl rfl ?_
                refine Plan.neBoolV (v := ((eqB 16 x_128 x_470) != (eqB 16 a2 b3))) FAesBack.bool4 rfl rfl rfl rfl ?_
                refine Plan.pickFb rfl rfl rfl ?_
                refine Plan.nil ?_
                refine hK492 _ _ ?_; clear hK492
                by_cases hc505 : ((eqB 16 x_128 x_470) != (eqB 16 a2 b3)) = true
                ·
                  replace hR := ifT hR hc505
                  refine W.condT (congrArg Value.bool hc505) ?_
                  refine W.seq_k fun K506 hK506 => ?_
                  refine W.regionT [(0, true)] (by kernel_rfl) ?_
                  refine Plan.assign_bool rfl rfl ?_
                  refine Plan.nil ?_
                  refine hK506 _ _ ?_; clear hK506
                  refine W.ret (thenR_ret (finR_ret ?_))
                  have h507 := St.pickT (C := [_, _, _, _, _, _, _, _, _]) h503 [] (by decide)
                  simp only [pick, List.filterMap_cons, List.filterMap_nil, List.getElem?_cons_zero, List.getElem?_cons_succ, List.cons_append, List.nil_append] at h507
                  subst r
                  refine RetOk.mk (.tmp_bool rfl .nil) ?_
                  exact ⟨rfl, h507⟩
                ·
                  replace hR := ifF hR hc505
                  refine W.condF (congrArg Value.bool (Bool.eq_false_iff.2 hc505)) ?_
                  refine W.skip ?_
                  refine hK474 _ _ ?_; clear hK474
                  refine W.seq_k fun K508 hK508 => ?_
                  refine W.regionT [(0, true), (1, false), (2, false), (3, true), (4, true), (5, true), (6, true), (7, false), (8, false), (9, true), (10, true), (11, true), (12, true), (13, true), (14, false), (15, true), (16, true), (17, true), (18, true)] (by kernel_rfl) ?_
                  refine Plan.move_int rfl rfl ?_
                  obtain ⟨x_510, hr509, hR⟩ := hR
                  refine Plan.call (vs := [VU .u8 x_4]) rfl FAesBack.call10 rfl (aes_Box_ok  hr509 h503) ?_
                  rintro _ w511 ⟨rfl, h511⟩
                  refine ⟨_, rfl, .inl ⟨PIn.keep PIn.nil h511, ?_⟩⟩
                  obtain ⟨x_513, hr512, hR⟩ := hR
                  refine Plan.call (vs := [VU .u8 x_510]) rfl FAesBack.call18 rfl (aes_Unbox_ok  hr512 h511) ?_
                  rintro _ w514 ⟨rfl, h514⟩
                  refine ⟨_, rfl, .inl ⟨PIn.keep PIn.nil h514, ?_⟩⟩
                  refine Plan.move_int rfl rfl ?_
                  by_cases hc515 : x_513 = x_4
                  ·
                    replace hR := ifT hR hc515
                    refine Plan.cmpV (a := (x_513.toNat : Int)) (b := (x_4.toNat : Int)) (p := x_513 = x_4) (v := true) rfl rfl rfl rfl icmp_eqU (decide_eq_true hc515) ?_
                    refine Plan.move_bool rfl rfl ?_
                    refine Plan.move_int rfl rfl ?_
                    obtain ⟨x_517, hr516, hR⟩ := hR
                    refine Plan.call (vs := [VU .u8 x_4]) rfl FAesBack.call18 rfl (aes_Unbox_ok  hr516 h514) ?_
                    rintro _ w518 ⟨rfl, h518⟩
                    refine ⟨_, rfl, .inl ⟨PIn.keep PIn.nil h518, ?_⟩⟩
                    obtain ⟨x_520, hr519, hR⟩ := hR
                    refine Plan.call (vs := [VU .u8 x_517]) rfl FAesBack.call10 rfl (aes_Box_ok  hr519 h518) ?_
                    rintro _ w521 ⟨rfl, h521⟩
                    refine ⟨_, rfl, .inl ⟨PIn.keep PIn.nil h521, ?_⟩⟩
                    refine Plan.move_int rfl rfl ?_
                    by_cases hc522 : x_520 = x_4
                    ·
                      replace hR := ifT hR hc522
                      refine Plan.cmpV (a := (x_520.toNat : Int)) (b := (x_4.toNat : Int)) (p := x_520 = x_4) (v := true) rfl rfl rfl rfl icmp_eqU (decide_eq_true hc522) ?_
                      refine Plan.pickTb rfl rfl rfl ?_
                      refine Plan.move_bool rfl rfl ?_
                      refine Plan.move_int rfl rfl ?_
                      obtain ⟨x_524, hr523, hR⟩ := hR
                      refine Plan.call (vs := [VU .u8 x_4]) rfl FAesBack.call10 rfl (aes_Box_ok  hr523 h521) ?_
                      rintro _ w525 ⟨rfl, h525⟩
                      refine ⟨_, rfl, .inl ⟨PIn.keep PIn.nil h525, ?_⟩⟩
                      refine Plan.move_int rfl rfl ?_
                      refine Plan.cmpP (a := (x_524.toNat : Int)) (b := (x_4.toNat : Int)) (p := x_524 ≠ x_4) rfl rfl rfl rfl icmp_neU ?_
                      refine Plan.pickTb rfl rfl rfl ?_
                      refine Plan.assign_bool rfl rfl ?_
                      refine Plan.nil ?_
                      refine hK508 _ _ ?_; clear hK508
                      refine W.ret (finR_ret ?_)
                      have h526 := St.pickT (C := [_, _, _, _, _, _, _, _, _]) h525 [] (by decide)
                      simp only [pick, List.filterMap_cons, List.filterMap_nil, List.getElem?_cons_zero, List.getElem?_cons_succ, List.cons_append, List.nil_append] at h526
                      subst r
                      refine RetOk.mk (.tmp_bool rfl .nil) ?_
                      exact ⟨rfl, h526⟩
                    ·
                      replace hR := ifF hR hc522
                      refine Plan.cmpV (a := (x_520.toNat : Int)) (b := (x_4.toNat : Int)) (p := x_520 = x_4) (v := false) rfl rfl rfl rfl icmp_eqU (decide_eq_false hc522) ?_
                      refine Plan.pickTb rfl rfl rfl ?_
                      refine Plan.move_bool rfl rfl ?_
                      refine Plan.passed rfl ?_
                      refine Plan.passed rfl ?_
                      refine Plan.passed rfl ?_
                      refine Plan.passed rfl ?_
                      refine Plan.pickFb rfl rfl rfl ?_
                      refine Plan.assign_bool rfl rfl ?_
                      refine Plan.nil ?_
                      refine hK508 _ _ ?_; clear hK508
                      refine W.ret (finR_ret ?_)
                      have h527 := St.pickT (C := [_, _, _, _, _, _, _, _, _]) h521 [] (by decide)
                      simp only [pick, List.filterMap_cons, List.filterMap_nil, List.getElem?_cons_zero, List.getElem?_cons_succ, List.cons_append, List.nil_append] at h527
                      subst r
                      refine RetOk.mk (.tmp_bool rfl .nil) ?_
                      exact ⟨rfl, h527⟩
                  ·
                    replace hR := ifF hR hc515
                    refine Plan.cmpV (a := (x_513.toNat : Int)) (b := (x_4.toNat : Int)) (p := x_513 = x_4) (v := false) rfl rfl rfl rfl icmp_eqU (decide_eq_false hc515) ?_
                    refine Plan.move_bool rfl rfl ?_
                    refine Plan.passed rfl ?_
                    refine Plan.passed rfl ?_
                    refine Plan.passed rfl ?_
                    refine Plan.passed rfl ?_
                    refine Plan.passed rfl ?_
                    refine Plan.pickFb rfl rfl rfl ?_
                    refine Plan.move_bool rfl rfl ?_
                    refine Plan.passed rfl ?_
                    refine Plan.passed rfl ?_
                    refine Plan.passed rfl ?_
                    refine Plan.passed rfl ?_
                    refine Plan.pickFb rfl rfl rfl ?_
                    refine Plan.assign_bool rfl rfl ?_
                    refine Plan.nil ?_
                    refine hK508 _ _ ?_; clear hK508
                    refine W.ret (finR_ret ?_)
                    have h528 := St.pickT (C := [_, _, _, _, _, _, _, _, _]) h514 [] (by decide)
                    simp only [pick, List.filterMap_cons, List.filterMap_nil, List.getElem?_cons_zero, List.getElem?_cons_succ, List.cons_append, List.nil_append] at h528
                    subst r
                    refine RetOk.mk (.tmp_bool rfl .nil) ?_
                    exact ⟨rfl, h528⟩
              ·
                replace hR := ifF hR hc504
                refine Plan.neArrV (b := false) FAesBack.arrI27 rfl rfl rfl (Bool.eq_false_iff.2 hc504) ?_
                refine Plan.pickFb rfl rfl rfl ?_
                refine Plan.move_bool rfl rfl ?_
                refine Plan.passed rfl ?_
                refine Plan.passed rfl ?_
                refine Plan.passed rfl ?_
                refine Plan.passed rfl ?_
                refine Plan.passed rfl ?_
                refine Plan.passed rfl ?_
                refine Plan.passed rfl ?_
                refine Plan.pickTb rfl rfl rfl ?_
                refine Plan.nil ?_
                refine hK492 _ _ ?_; clear hK492
                refine W.condT rfl ?_
                refine W.seq_k fun K529 hK529 => ?_
                refine W.regionT [(0, true)] (by kernel_rfl) ?_
                refine Plan.assign_bool rfl rfl ?_
                refine Plan.nil ?_
                refine hK529 _ _ ?_; clear hK529
                refine W.ret (thenR_ret (finR_ret ?_))
                have h530 := St.pickT (C := [_, _, _, _, _, _, _, _, _]) h503 [] (by decide)
                simp only [pick, List.filterMap_cons, List.filterMap_nil, List.getElem?_cons_zero, List.getElem?_cons_succ, List.cons_append, List.nil_append] at h530
                subst r
                refine RetOk.mk (.tmp_bool rfl .nil) ?_
                exact ⟨rfl, h530⟩
            ·
              replace hR := ifF hR hc497
              refine Plan.neArrV (b := false) FAesBack.arrI27 rfl rfl rfl (Bool.eq_false_iff.2 hc497) ?_
              refine Plan.move_bool rfl rfl ?_
              refine Plan.passed rfl ?_
              refine Plan.passed rfl ?_
              refine Plan.passed rfl ?_
              refine Plan.passed rfl ?_
              refine Plan.passed rfl ?_
              refine Plan.passed rfl ?_
              refine Plan.passed rfl ?_
              refine Plan.pickTb rfl rfl rfl ?_
              refine Plan.move_bool rfl rfl ?_
              refine Plan.passed rfl ?_
              refine Plan.passed rfl ?_
              refine Plan.passed rfl ?_
              refine Plan.passed rfl ?_
              refine Plan.passed rfl ?_
              refine Plan.passed rfl ?_
              refine Plan.passed rfl ?_
              refine Plan.pickTb rfl rfl rfl ?_
              refine Plan.nil ?_
              refine hK492 _ _ ?_; clear hK492
              refine W.condT rfl ?_
              refine W.seq_k fun K531 hK531 => ?_
              refine W.regionT [(0, true)] (by kernel_rfl) ?_
              refine Plan.assign_bool rfl rfl ?_
              refine Plan.nil ?_
              refine hK531 _ _ ?_; clear hK531
              refine W.ret (thenR_ret (finR_ret ?_))
              have h532 := St.pickT (C := [_, _, _, _, _, _, _, _, _]) h496 [] (by decide)
              simp only [pick, List.filterMap_cons, List.filterMap_nil, List.getElem?_cons_zero, List.getElem?_cons_succ, List.cons_append, List.nil_append] at h532
              subst r
              refine RetOk.mk (.tmp_bool rfl .nil) ?_
              exact ⟨rfl, h532⟩
    ·
      refine PlanT.toFork ?_
      refine Plan.forked ?_ ?_
      ·
        refine PlanT.toFork ?_
        refine Plan.alloc h126 rfl FAesBack.z27 (PIn.cons 4 rfl (PIn.cons 5 rfl PIn.nil)) fun b533 w533 hb533 h533 => ?_
        simp only [rngs, Nat.zero_add, Nat.reduceAdd, List.cons_append, List.nil_append] at h533
        refine Plan.forked ?_ ?_
        ·
          refine PlanT.toFork ?_
          have h534 := St.pickT (C := [_, _, _, _, _, _, _, _]) h533 [1, 2, 3, 4, 0, 5, 6, 7] (by decide)
          simp only [pick, List.filterMap_cons, List.filterMap_nil, List.getElem?_cons_zero, List.getElem?_cons_succ, List.cons_append, List.nil_append] at h534
          obtain ⟨x_536, hr535, hR⟩ := hR
          refine Plan.call (vs := [.pointer (some ⟨b0_20, 0, none⟩), AG [(16, fun q => VU .u8 (a2 q))]]) rfl FAesBack.call15 rfl (aes_Cipher_Encrypt_ok  hr535 h534) ?_
          rintro _ w537 ⟨rfl, h537⟩
          refine ⟨_, rfl, .inl ⟨PIn.keep (PIn.cons 5 rfl (PIn.cons 6 rfl PIn.nil)) h537, ?_⟩⟩
          refine Plan.forked ?_ ?_
          ·
            refine PlanT.toLine ?_
            obtain ⟨x_539, hr538, hR⟩ := hR
            refine Plan.call (vs := [.pointer (some ⟨b0_20, 0, none⟩), AG [(16, fun q => VU .u8 (b3 q))]]) rfl FAesBack.call15 rfl (aes_Cipher_Encrypt_ok  hr538 h537) ?_
            rintro _ w540 ⟨rfl, h540⟩
            refine ⟨_, rfl, .inl ⟨PIn.keep (PIn.cons 5 rfl (PIn.cons 6 rfl PIn.nil)) h540, ?_⟩⟩
            refine Plan.alloc h540 rfl FAesBack.z27 (PIn.cons 5 rfl (PIn.cons 6 rfl PIn.nil)) fun b541 w541 hb541 h541 => ?_
            simp only [rngs, Nat.zero_add, Nat.reduceAdd, List.cons_append, List.nil_append] at h541
            refine Plan.storeP (ps := [(16, fun q => VU .u8 (x_536 q))]) h541 rfl rfl rfl (.cons 5 rfl .nil) ⟨fun _ _ => rfl, trivial⟩ FAesBack.sz27 (EffO.keep (PIn.cons 6 rfl (PIn.cons 7 rfl PIn.nil))) fun w542 h542 => ?_
            simp only [List.set_cons_zero, List.set_cons_succ] at h542
            refine Plan.storeA (f' := fun q => VU .u8 (x_539 q)) h542 0 rfl rfl rfl rfl (fun _ _ => rfl) FAesBack.sz27 rfl fun w543 h543 => ?_
            simp only [List.set_cons_zero, List.set_cons_succ] at h543
            refine Plan.nil ?_
            refine hK24 _ _ ?_; clear hK24
            refine W.seq_k fun K544 hK544 => ?_
            refine W.seq_k fun K563 hK563 => ?_
            refine W.regionD FAesBack.mixed [(0, true), (1, true), (3, true), (2, false), (4, true), (5, true), (6, true), (7, true), (8, true), (11, true), (9, false), (10, false), (12, true), (13, true), (14, true), (15, true), (16, true), (17, true), (18, true), (19, true), (20, true), (21, true), (22, true)] (by kernel_rfl) ?_
            have h564 := h543.drew
            refine Plan.move_ptr rfl rfl ?_
            refine Plan.loadA1 h564 5 rfl rfl rfl FAesBack.agg27 ?_
            refine Plan.loadA1 h564 7 rfl rfl rfl FAesBack.agg27 ?_
            have h565 := St.pickT (C := [_, _, _, _, _, _, _, _, _]) h564 [1, 2, 3, 4, 0, 5, 6, 7, 8] (by decide)
            simp only [pick, List.filterMap_cons, List.filterMap_nil, List.getElem?_cons_zero, List.getElem?_cons_succ, List.cons_append, List.nil_append] at h565
            obtain ⟨x_567, hr566, hR⟩ := hR
            refine Plan.call (vs := [.pointer (some ⟨b0_20, 0, none⟩), AG [(16, fun q => VU .u8 (x_536 q))]]) rfl FAesBack.call17 rfl (aes_Cipher_Decrypt_ok  hr566 h565) ?_
            rintro _ w568 ⟨rfl, h568⟩
            refine ⟨_, rfl, .inl ⟨PIn.keep (PIn.cons 7 rfl (PIn.cons 5 rfl PIn.nil)) h568, ?_⟩⟩
            by_cases hc569 : (eqB 16 x_567 a2) = true
            ·
              replace hR := ifT hR hc569
              refine Plan.neArrV (b := true) FAesBack.arrI27 rfl rfl rfl hc569 ?_
              refine Plan.move_bool rfl rfl ?_
              refine Plan.move_ptr rfl rfl ?_
              refine Plan.move_ptr rfl rfl ?_
              refine Plan.loadA1 h568 7 rfl rfl rfl FAesBack.agg27 ?_
              refine Plan.loadA1 h568 7 rfl rfl rfl FAesBack.agg27 ?_
              obtain ⟨x_571, hr570, hR⟩ := hR
              refine Plan.call (vs := [.pointer (some ⟨b0_20, 0, none⟩), AG [(16, fun q => VU .u8 (a2 q))]]) rfl FAesBack.call17 rfl (aes_Cipher_Decrypt_ok  hr570 h568) ?_
              rintro _ w572 ⟨rfl, h572⟩
              refine ⟨_, rfl, .inl ⟨PIn.keep (PIn.cons 7 rfl (PIn.cons 7 rfl (PIn.cons 7 rfl (PIn.cons 5 rfl PIn.nil)))) h572, ?_⟩⟩
              obtain ⟨x_574, hr573, hR⟩ := hR
              refine Plan.call (vs := [.pointer (some ⟨b0_20, 0, none⟩), AG [(16, fun q => VU .u8 (x_571 q))]]) rfl FAesBack.call15 rfl (aes_Cipher_Encrypt_ok  hr573 h572) ?_
              rintro _ w575 ⟨rfl, h575⟩
              refine ⟨_, rfl, .inl ⟨PIn.keep (PIn.cons 7 rfl (PIn.cons 7 rfl (PIn.cons 7 rfl (PIn.cons 5 rfl PIn.nil)))) h575, ?_⟩⟩
              by_cases hc576 : (eqB 16 x_574 a2) = true
              ·
                replace hR := ifT hR hc576
                refine Plan.neArrV (b := true) FAesBack.arrI27 rfl rfl rfl hc576 ?_
                refine Plan.pickFb rfl rfl rfl ?_
                refine Plan.move_bool rfl rfl ?_
                refine Plan.loadA1 h575 5 rfl rfl rfl FAesBack.agg27 ?_
                refine Plan.loadA1 h575 4 rfl rfl rfl FAesBack.agg27 ?_
                refine Plan.eqArrV (b := (eqB 16 x_536 x_539)) FAesBack.arrI27 rfl rfl rfl rfl ?_
                refine Plan.loadA1 h575 7 rfl rfl rfl FAesBack.agg27 ?_
                refine Plan.loadA1 h575 6 rfl rfl rfl FAesBack.agg27 ?_
                refine Plan.eqArrV (b := (eqB 16 a2 b3)) FAesBack.arrI27 rfl rfl rfl rfl ?_
                refine Plan.neBoolV (v := ((eqB 16 x_536 x_539) != (eqB 16 a2 b3))) FAesBack.bool4 rfl rfl rfl rfl ?_
                refine Plan.pickFb rfl rfl rfl ?_
                refine Plan.nil ?_
                refine hK563 _ _ ?_; clear hK563
                by_cases hc577 : ((eqB 16 x_536 x_539) != (eqB 16 a2 b3)) = true
                ·
                  replace hR := ifT hR hc577
                  refine W.condT (congrArg Value.bool hc577) ?_
                  refine W.seq_k fun K578 hK578 => ?_
                  refine W.regionT [(0, true)] (by kernel_rfl) ?_
                  refine Plan.assign_bool rfl rfl ?_
                  refine Plan.nil ?_
                  refine hK578 _ _ ?_; clear hK578
                  refine W.ret (thenR_ret (finR_ret ?_))
                  have h579 := St.pickT (C := [_, _, _, _, _, _, _, _, _]) h575 [] (by decide)
                  simp only [pick, List.filterMap_cons, List.filterMap_nil, List.getElem?_cons_zero, List.getElem?_cons_succ, List.cons_append, List.nil_append] at h579
                  subst r
                  refine RetOk.mk (.tmp_bool rfl .nil) ?_
                  exact ⟨rfl, h579⟩
                ·
                  replace hR := ifF hR hc577
                  refine W.condF (congrArg Value.bool (Bool.eq_false_iff.2 hc577)) ?_
                  refine W.skip ?_
                  refine hK544 _ _ ?_; clear hK544
                  refine W.seq_k fun K580 hK580 => ?_
                  refine W.regionT [(0, true), (1, false), (2, false), (3, true), (4, true), (5, true), (6, true), (7, false), (8, false), (9, true), (10, true), (11, true), (12, true), (13, true), (14, false), (15, true), (16, true), (17, true), (18, true)] (by kernel_rfl) ?_
                  refine Plan.move_int rfl rfl ?_
                  obtain ⟨x_582, hr581, hR⟩ := hR
                  refine Plan.call (vs := [VU .u8 x_4]) rfl FAesBack.call10 rfl (aes_Box_ok  hr581 h575) ?_
                  rintro _ w583 ⟨rfl, h583⟩
                  refine ⟨_, rfl, .inl ⟨PIn.keep PIn.nil h583, ?_⟩⟩
                  obtain ⟨x_585, hr584, hR⟩ := hR
                  refine Plan.call (vs := [VU .u8 x_582]) rfl FAesBack.call18 rfl (aes_Unbox_ok  hr584 h583) ?_
                  rintro _ w586 ⟨rfl, h586⟩
                  refine ⟨_, rfl, .inl ⟨PIn.keep PIn.nil h586, ?_⟩⟩
                  refine Plan.move_int rfl rfl ?_
                  by_cases hc587 : x_585 = x_4
                  ·
                    replace hR := ifT hR hc587
                    refine Plan.cmpV (a := (x_585.toNat : Int)) (b := (x_4.toNat : Int)) (p := x_585 = x_4) (v := true) rfl rfl rfl rfl icmp_eqU (decide_eq_true hc587) ?_
                    refine Plan.move_bool rfl rfl ?_
                    refine Plan.move_int rfl rfl ?_
                    obtain ⟨x_589, hr588, hR⟩ := hR
                    refine Plan.call (vs := [VU .u8 x_4]) rfl FAesBack.call18 rfl (aes_Unbox_ok  hr588 h586) ?_
                    rintro _ w590 ⟨rfl, h590⟩
                    refine ⟨_, rfl, .inl ⟨PIn.keep PIn.nil h590, ?_⟩⟩
                    obtain ⟨x_592, hr591, hR⟩ := hR
                    refine Plan.call (vs := [VU .u8 x_589]) rfl FAesBack.call10 rfl (aes_Box_ok  hr591 h590) ?_
                    rintro _ w593 ⟨rfl, h593⟩
                    refine ⟨_, rfl, .inl ⟨PIn.keep PIn.nil h593, ?_⟩⟩
                    refine Plan.move_int rfl rfl ?_
                    by_cases hc594 : x_592 = x_4
                    ·
                      replace hR := ifT hR hc594
                      refine Plan.cmpV (a := (x_592.toNat : Int)) (b := (x_4.toNat : Int)) (p := x_592 = x_4) (v := true) rfl rfl rfl rfl icmp_eqU (decide_eq_true hc594) ?_
                      refine Plan.pickTb rfl rfl rfl ?_
                      refine Plan.move_bool rfl rfl ?_
                      refine Plan.move_int rfl rfl ?_
                      obtain ⟨x_596, hr595, hR⟩ := hR
                      refine Plan.call (vs := [VU .u8 x_4]) rfl FAesBack.call10 rfl (aes_Box_ok  hr595 h593) ?_
                      rintro _ w597 ⟨rfl, h597⟩
                      refine ⟨_, rfl, .inl ⟨PIn.keep PIn.nil h597, ?_⟩⟩
                      refine Plan.move_int rfl rfl ?_
                      refine Plan.cmpP (a := (x_596.toNat : Int)) (b := (x_4.toNat : Int)) (p := x_596 ≠ x_4) rfl rfl rfl rfl icmp_neU ?_
                      refine Plan.pickTb rfl rfl rfl ?_
                      refine Plan.assign_bool rfl rfl ?_
                      refine Plan.nil ?_
                      refine hK580 _ _ ?_; clear hK580
                      refine W.ret (finR_ret ?_)
                      have h598 := St.pickT (C := [_, _, _, _, _, _, _, _, _]) h597 [] (by decide)
                      simp only [pick, List.filterMap_cons, List.filterMap_nil, List.getElem?_cons_zero, List.getElem?_cons_succ, List.cons_append, List.nil_append] at h598
                      subst r
                      refine RetOk.mk (.tmp_bool rfl .nil) ?_
                      exact ⟨rfl, h598⟩
                    ·
                      replace hR := ifF hR hc594
                      refine Plan.cmpV (a := (x_592.toNat : Int)) (b := (x_4.toNat : Int)) (p := x_592 = x_4) (v := false) rfl rfl rfl rfl icmp_eqU (decide_eq_false hc594) ?_
                      refine Plan.pickTb rfl rfl rfl ?_
                      refine Plan.move_bool rfl rfl ?_
                      refine Plan.passed rfl ?_
                      refine Plan.passed rfl ?_
                      refine Plan.passed rfl ?_
                      refine Plan.passed rfl ?_
                      refine Plan.pickFb rfl rfl rfl ?_
                      refine Plan.assign_bool rfl rfl ?_
                      refine Plan.nil ?_
                      refine hK580 _ _ ?_; clear hK580
                      refine W.ret (finR_ret ?_)
                      have h599 := St.pickT (C := [_, _, _, _, _, _, _, _, _]) h593 [] (by decide)
                      simp only [pick, List.filterMap_cons, List.filterMap_nil, List.getElem?_cons_zero, List.getElem?_cons_succ, List.cons_append, List.nil_append] at h599
                      subst r
                      refine RetOk.mk (.tmp_bool rfl .nil) ?_
                      exact ⟨rfl, h599⟩
                  ·
                    replace hR := ifF hR hc587
                    refine Plan.cmpV (a := (x_585.toNat : Int)) (b := (x_4.toNat : Int)) (p := x_585 = x_4) (v := false) rfl rfl rfl rfl icmp_eqU (decide_eq_false hc587) ?_
                    refine Plan.move_bool rfl rfl ?_
                    refine Plan.passed rfl ?_
                    refine Plan.passed rfl ?_
                    refine Plan.passed rfl ?_
                    refine Plan.passed rfl ?_
                    refine Plan.passed rfl ?_
                    refine Plan.pickFb rfl rfl rfl ?_
                    refine Plan.move_bool rfl rfl ?_
                    refine Plan.passed rfl ?_
                    refine Plan.passed rfl ?_
                    refine Plan.passed rfl ?_
                    refine Plan.passed rfl ?_
                    refine Plan.pickFb rfl rfl rfl ?_
                    refine Plan.assign_bool rfl rfl ?_
                    refine Plan.nil ?_
                    refine hK580 _ _ ?_; clear hK580
                    refine W.ret (finR_ret ?_)
                    have h600 := St.pickT (C := [_, _, _, _, _, _, _, _, _]) h586 [] (by decide)
                    simp only [pick, List.filterMap_cons, List.filterMap_nil, List.getElem?_cons_zero, List.getElem?_cons_succ, List.cons_append, List.nil_append] at h600
                    subst r
                    refine RetOk.mk (.tmp_bool rfl .nil) ?_
                    exact ⟨rfl, h600⟩
              ·
                replace hR := ifF hR hc576
                refine Plan.neArrV (b := false) FAesBack.arrI27 rfl rfl rfl (Bool.eq_false_iff.2 hc576) ?_
                refine Plan.pickFb rfl rfl rfl ?_
                refine Plan.move_bool rfl rfl ?_
                refine Plan.passed rfl ?_
                refine Plan.passed rfl ?_
                refine Plan.passed rfl ?_
                refine Plan.passed rfl ?_
                refine Plan.passed rfl ?_
                refine Plan.passed rfl ?_
                refine Plan.passed rfl ?_
                refine Plan.pickTb rfl rfl rfl ?_
                refine Plan.nil ?_
                refine hK563 _ _ ?_; clear hK563
                refine W.condT rfl ?_
                refine W.seq_k fun K601 hK601 => ?_
                refine W.regionT [(0, true)] (by kernel_rfl) ?_
                refine Plan.assign_bool rfl rfl ?_
                refine Plan.nil ?_
                refine hK601 _ _ ?_; clear hK601
                refine W.ret (thenR_ret (finR_ret ?_))
                have h602 := St.pickT (C := [_, _, _, _, _, _, _, _, _]) h575 [] (by decide)
                simp only [pick, List.filterMap_cons, List.filterMap_nil, List.getElem?_cons_zero, List.getElem?_cons_succ, List.cons_append, List.nil_append] at h602
                subst r
                refine RetOk.mk (.tmp_bool rfl .nil) ?_
                exact ⟨rfl, h602⟩
            ·
              replace hR := ifF hR hc569
              refine Plan.neArrV (b := false) FAesBack.arrI27 rfl rfl rfl (Bool.eq_false_iff.2 hc569) ?_
              refine Plan.move_bool rfl rfl ?_
              refine Plan.passed rfl ?_
              refine Plan.passed rfl ?_
              refine Plan.passed rfl ?_
              refine Plan.passed rfl ?_
              refine Plan.passed rfl ?_
              refine Plan.passed rfl ?_
              refine Plan.passed rfl ?_
              refine Plan.pickTb rfl rfl rfl ?_
              refine Plan.move_bool rfl rfl ?_
              refine Plan.passed rfl ?_
              refine Plan.passed rfl ?_
              refine Plan.passed rfl ?_
              refine Plan.passed rfl ?_
              refine Plan.passed rfl ?_
              refine Plan.passed rfl ?_
              refine Plan.passed rfl ?_
              refine Plan.pickTb rfl rfl rfl ?_
              refine Plan.nil ?_
              refine hK563 _ _ ?_; clear hK563
              refine W.condT rfl ?_
              refine W.seq_k fun K603 hK603 => ?_
              refine W.regionT [(0, true)] (by kernel_rfl) ?_
              refine Plan.assign_bool rfl rfl ?_
              refine Plan.nil ?_
              refine hK603 _ _ ?_; clear hK603
              refine W.ret (thenR_ret (finR_ret ?_))
              have h604 := St.pickT (C := [_, _, _, _, _, _, _, _, _]) h568 [] (by decide)
              simp only [pick, List.filterMap_cons, List.filterMap_nil, List.getElem?_cons_zero, List.getElem?_cons_succ, List.cons_append, List.nil_append] at h604
              subst r
              refine RetOk.mk (.tmp_bool rfl .nil) ?_
              exact ⟨rfl, h604⟩
          ·
            refine PlanT.toLine ?_
            refine Plan.alloc h537 rfl FAesBack.z27 (PIn.cons 5 rfl (PIn.cons 6 rfl PIn.nil)) fun b605 w605 hb605 h605 => ?_
            simp only [rngs, Nat.zero_add, Nat.reduceAdd, List.cons_append, List.nil_append] at h605
            have h606 := St.pickT (C := [_, _, _, _, _, _, _, _, _]) h605 [1, 2, 3, 4, 0, 5, 6, 7, 8] (by decide)
            simp only [pick, List.filterMap_cons, List.filterMap_nil, List.getElem?_cons_zero, List.getElem?_cons_succ, List.cons_append, List.nil_append] at h606
            obtain ⟨x_608, hr607, hR⟩ := hR
            refine Plan.call (vs := [.pointer (some ⟨b0_20, 0, none⟩), AG [(16, fun q => VU .u8 (b3 q))]]) rfl FAesBack.call15 rfl (aes_Cipher_Encrypt_ok  hr607 h606) ?_
            rintro _ w609 ⟨rfl, h609⟩
            refine ⟨_, rfl, .inl ⟨PIn.keep (PIn.cons 6 rfl (PIn.cons 7 rfl PIn.nil)) h609, ?_⟩⟩
            refine Plan.storeP (ps := [(16, fun q => VU .u8 (x_536 q))]) h609 rfl rfl rfl (.cons 5 rfl .nil) ⟨fun _ _ => rfl, trivial⟩ FAesBack.sz27 (EffO.keep (PIn.cons 6 rfl (PIn.cons 7 rfl PIn.nil))) fun w610 h610 => ?_
            simp only [List.set_cons_zero, List.set_cons_succ] at h610
            refine Plan.storeA (f' := fun q => VU .u8 (x_608 q)) h610 4 rfl rfl rfl rfl (fun _ _ => rfl) FAesBack.sz27 rfl fun w611 h611 => ?_
            simp only [List.set_cons_zero, List.set_cons_succ] at h611
            refine Plan.nil ?_
            refine hK24 _ _ ?_; clear hK24
            refine W.seq_k fun K612 hK612 => ?_
            refine W.seq_k fun K630 hK630 => ?_
            refine W.regionD FAesBack.mixed [(0, true), (1, true), (3, true), (2, false), (4, true), (5, true), (6, true), (7, true), (8, true), (11, true), (9, false), (10, false), (12, true), (13, true), (14, true), (15, true), (16, true), (17, true), (18, true), (19, true), (20, true), (21, true), (22, true)] (by kernel_rfl) ?_
            have h631 := h611.drew
            refine Plan.move_ptr rfl rfl ?_
            refine Plan.loadA1 h631 5 rfl rfl rfl FAesBack.agg27 ?_
            refine Plan.loadA1 h631 7 rfl rfl rfl FAesBack.agg27 ?_
            obtain ⟨x_633, hr632, hR⟩ := hR
            refine Plan.call (vs := [.pointer (some ⟨b0_20, 0, none⟩), AG [(16, fun q => VU .u8 (x_536 q))]]) rfl FAesBack.call17 rfl (aes_Cipher_Decrypt_ok  hr632 h631) ?_
            rintro _ w634 ⟨rfl, h634⟩
            refine ⟨_, rfl, .inl ⟨PIn.keep (PIn.cons 7 rfl (PIn.cons 5 rfl PIn.nil)) h634, ?_⟩⟩
            by_cases hc635 : (eqB 16 x_633 a2) = true
            ·
              replace hR := ifT hR hc635
              refine Plan.neArrV (b := true) FAesBack.arrI27 rfl rfl rfl hc635 ?_
              refine Plan.move_bool rfl rfl ?_
              refine Plan.move_ptr rfl rfl ?_
              refine Plan.move_ptr rfl rfl ?_
              refine Plan.loadA1 h634 7 rfl rfl rfl FAesBack.agg27 ?_
              refine Plan.loadA1 h634 7 rfl rfl rfl FAesBack.agg27 ?_
              obtain ⟨x_637, hr636, hR⟩ := hR
              refine Plan.call (vs := [.pointer (some ⟨b0_20, 0, none⟩), AG [(16, fun q => VU .u8 (a2 q))]]) rfl FAesBack.call17 rfl (aes_Cipher_Decrypt_ok  hr636 h634) ?_
              rintro _ w638 ⟨rfl, h638⟩
              refine ⟨_, rfl, .inl ⟨PIn.keep (PIn.cons 7 rfl (PIn.cons 7 rfl (PIn.cons 7 rfl (PIn.cons 5 rfl PIn.nil)))) h638, ?_⟩⟩
              obtain ⟨x_640, hr639, hR⟩ := hR
              refine Plan.call (vs := [.pointer (some ⟨b0_20, 0, none⟩), AG [(16, fun q => VU .u8 (x_637 q))]]) rfl FAesBack.call15 rfl (aes_Cipher_Encrypt_ok  hr639 h638) ?_
              rintro _ w641 ⟨rfl, h641⟩
              refine ⟨_, rfl, .inl ⟨PIn.keep (PIn.cons 7 rfl (PIn.cons 7 rfl (PIn.cons 7 rfl (PIn.cons 5 rfl PIn.nil)))) h641, ?_⟩⟩
              by_cases hc642 : (eqB 16 x_640 a2) = true
              ·
                replace hR := ifT hR hc642
                refine Plan.neArrV (b := true) FAesBack.arrI27 rfl rfl rfl hc642 ?_
                refine Plan.pickFb rfl rfl rfl ?_
                refine Plan.move_bool rfl rfl ?_
                refine Plan.loadA1 h641 5 rfl rfl rfl FAesBack.agg27 ?_
                refine Plan.loadA1 h641 4 rfl rfl rfl FAesBack.agg27 ?_
                refine Plan.eqArrV (b := (eqB 16 x_536 x_608)) FAesBack.arrI27 rfl rfl rfl rfl ?_
                refine Plan.loadA1 h641 7 rfl rfl rfl FAesBack.agg27 ?_
                refine Plan.loadA1 h641 6 rfl rfl rfl FAesBack.agg27 ?_
                refine Plan.eqArrV (b := (eqB 16 a2 b3)) FAesBack.arrI27 rfl rfl rfl rfl ?_
                refine Plan.neBoolV (v := ((eqB 16 x_536 x_608) != (eqB 16 a2 b3))) FAesBack.bool4 rfl rfl rfl rfl ?_
                refine Plan.pickFb rfl rfl rfl ?_
                refine Plan.nil ?_
                refine hK630 _ _ ?_; clear hK630
                by_cases hc643 : ((eqB 16 x_536 x_608) != (eqB 16 a2 b3)) = true
                ·
                  replace hR := ifT hR hc643
                  refine W.condT (congrArg Value.bool hc643) ?_
                  refine W.seq_k fun K644 hK644 => ?_
                  refine W.regionT [(0, true)] (by kernel_rfl) ?_
                  refine Plan.assign_bool rfl rfl ?_
                  refine Plan.nil ?_
                  refine hK644 _ _ ?_; clear hK644
                  refine W.ret (thenR_ret (finR_ret ?_))
                  have h645 := St.pickT (C := [_, _, _, _, _, _, _, _, _]) h641 [] (by decide)
                  simp only [pick, List.filterMap_cons, List.filterMap_nil, List.getElem?_cons_zero, List.getElem?_cons_succ, List.cons_append, List.nil_append] at h645
                  subst r
                  refine RetOk.mk (.tmp_bool rfl .nil) ?_
                  exact ⟨rfl, h645⟩
                ·
                  replace hR := ifF hR hc643
                  refine W.condF (congrArg Value.bool (Bool.eq_false_iff.2 hc643)) ?_
                  refine W.skip ?_
                  refine hK612 _ _ ?_; clear hK612
                  refine W.seq_k fun K646 hK646 => ?_
                  refine W.regionT [(0, true), (1, false), (2, false), (3, true), (4, true), (5, true), (6, true), (7, false), (8, false), (9, true), (10, true), (11, true), (12, true), (13, true), (14, false), (15, true), (16, true), (17, true), (18, true)] (by kernel_rfl) ?_
                  refine Plan.move_int rfl rfl ?_
                  obtain ⟨x_648, hr647, hR⟩ := hR
                  refine Plan.call (vs := [VU .u8 x_4]) rfl FAesBack.call10 rfl (aes_Box_ok  hr647 h641) ?_
                  rintro _ w649 ⟨rfl, h649⟩
                  refine ⟨_, rfl, .inl ⟨PIn.keep PIn.nil h649, ?_⟩⟩
                  obtain ⟨x_651, hr650, hR⟩ := hR
                  refine Plan.call (vs := [VU .u8 x_648]) rfl FAesBack.call18 rfl (aes_Unbox_ok  hr650 h649) ?_
                  rintro _ w652 ⟨rfl, h652⟩
                  refine ⟨_, rfl, .inl ⟨PIn.keep PIn.nil h652, ?_⟩⟩
                  refine Plan.move_int rfl rfl ?_
                  by_cases hc653 : x_651 = x_4
                  ·
                    replace hR := ifT hR hc653
                    refine Plan.cmpV (a := (x_651.toNat : Int)) (b := (x_4.toNat : Int)) (p := x_651 = x_4) (v := true) rfl rfl rfl rfl icmp_eqU (decide_eq_true hc653) ?_
                    refine Plan.move_bool rfl rfl ?_
                    refine Plan.move_int rfl rfl ?_
                    obtain ⟨x_655, hr654, hR⟩ := hR
                    refine Plan.call (vs := [VU .u8 x_4]) rfl FAesBack.call18 rfl (aes_Unbox_ok  hr654 h652) ?_
                    rintro _ w656 ⟨rfl, h656⟩
                    refine ⟨_, rfl, .inl ⟨PIn.keep PIn.nil h656, ?_⟩⟩
                    obtain ⟨x_658, hr657, hR⟩ := hR
                    refine Plan.call (vs := [VU .u8 x_655]) rfl FAesBack.call10 rfl (aes_Box_ok  hr657 h656) ?_
                    rintro _ w659 ⟨rfl, h659⟩
                    refine ⟨_, rfl, .inl ⟨PIn.keep PIn.nil h659, ?_⟩⟩
                    refine Plan.move_int rfl rfl ?_
                    by_cases hc660 : x_658 = x_4
                    ·
                      replace hR := ifT hR hc660
                      refine Plan.cmpV (a := (x_658.toNat : Int)) (b := (x_4.toNat : Int)) (p := x_658 = x_4) (v := true) rfl rfl rfl rfl icmp_eqU (decide_eq_true hc660) ?_
                      refine Plan.pickTb rfl rfl rfl ?_
                      refine Plan.move_bool rfl rfl ?_
                      refine Plan.move_int rfl rfl ?_
                      obtain ⟨x_662, hr661, hR⟩ := hR
                      refine Plan.call (vs := [VU .u8 x_4]) rfl FAesBack.call10 rfl (aes_Box_ok  hr661 h659) ?_
                      rintro _ w663 ⟨rfl, h663⟩
                      refine ⟨_, rfl, .inl ⟨PIn.keep PIn.nil h663, ?_⟩⟩
                      refine Plan.move_int rfl rfl ?_
                      refine Plan.cmpP (a := (x_662.toNat : Int)) (b := (x_4.toNat : Int)) (p := x_662 ≠ x_4) rfl rfl rfl rfl icmp_neU ?_
                      refine Plan.pickTb rfl rfl rfl ?_
                      refine Plan.assign_bool rfl rfl ?_
                      refine Plan.nil ?_
                      refine hK646 _ _ ?_; clear hK646
                      refine W.ret (finR_ret ?_)
                      have h664 := St.pickT (C := [_, _, _, _, _, _, _, _, _]) h663 [] (by decide)
                      simp only [pick, List.filterMap_cons, List.filterMap_nil, List.getElem?_cons_zero, List.getElem?_cons_succ, List.cons_append, List.nil_append] at h664
                      subst r
                      refine RetOk.mk (.tmp_bool rfl .nil) ?_
                      exact ⟨rfl, h664⟩
                    ·
                      replace hR := ifF hR hc660
                      refine Plan.cmpV (a := (x_658.toNat : Int)) (b := (x_4.toNat : Int)) (p := x_658 = x_4) (v := false) rfl rfl rfl rfl icmp_eqU (decide_eq_false hc660) ?_
                      refine Plan.pickTb rfl rfl rfl ?_
                      refine Plan.move_bool rfl rfl ?_
                      refine Plan.passed rfl ?_
                      refine Plan.passed rfl ?_
                      refine Plan.passed rfl ?_
                      refine Plan.passed rfl ?_
                      refine Plan.pickFb rfl rfl rfl ?_
                      refine Plan.assign_bool rfl rfl ?_
                      refine Plan.nil ?_
                      refine hK646 _ _ ?_; clear hK646
                      refine W.ret (finR_ret ?_)
                      have h665 := St.pickT (C := [_, _, _, _, _, _, _, _, _]) h659 [] (by decide)
                      simp only [pick, List.filterMap_cons, List.filterMap_nil, List.getElem?_cons_zero, List.getElem?_cons_succ, List.cons_append, List.nil_append] at h665
                      subst r
                      refine RetOk.mk (.tmp_bool rfl .nil) ?_
                      exact ⟨rfl, h665⟩
                  ·
                    replace hR := ifF hR hc653
                    refine Plan.cmpV (a := (x_651.toNat : Int)) (b := (x_4.toNat : Int)) (p := x_651 = x_4) (v := false) rfl rfl rfl rfl icmp_eqU (decide_eq_false hc653) ?_
                    refine Plan.move_bool rfl rfl ?_
                    refine Plan.passed rfl ?_
                    refine Plan.passed rfl ?_
                    refine Plan.passed rfl ?_
                    refine Plan.passed rfl ?_
                    refine Plan.passed rfl ?_
                    refine Plan.pickFb rfl rfl rfl ?_
                    refine Plan.move_bool rfl rfl ?_
                    refine Plan.passed rfl ?_
                    refine Plan.passed rfl ?_
                    refine Plan.passed rfl ?_
                    refine Plan.passed rfl ?_
                    refine Plan.pickFb rfl rfl rfl ?_
                    refine Plan.assign_bool rfl rfl ?_
                    refine Plan.nil ?_
                    refine hK646 _ _ ?_; clear hK646
                    refine W.ret (finR_ret ?_)
                    have h666 := St.pickT (C := [_, _, _, _, _, _, _, _, _]) h652 [] (by decide)
                    simp only [pick, List.filterMap_cons, List.filterMap_nil, List.getElem?_cons_zero, List.getElem?_cons_succ, List.cons_append, List.nil_append] at h666
                    subst r
                    refine RetOk.mk (.tmp_bool rfl .nil) ?_
                    exact ⟨rfl, h666⟩
              ·
                replace hR := ifF hR hc642
                refine Plan.neArrV (b := false) FAesBack.arrI27 rfl rfl rfl (Bool.eq_false_iff.2 hc642) ?_
                refine Plan.pickFb rfl rfl rfl ?_
                refine Plan.move_bool rfl rfl ?_
                refine Plan.passed rfl ?_
                refine Plan.passed rfl ?_
                refine Plan.passed rfl ?_
                refine Plan.passed rfl ?_
                refine Plan.passed rfl ?_
                refine Plan.passed rfl ?_
                refine Plan.passed rfl ?_
                refine Plan.pickTb rfl rfl rfl ?_
                refine Plan.nil ?_
                refine hK630 _ _ ?_; clear hK630
                refine W.condT rfl ?_
                refine W.seq_k fun K667 hK667 => ?_
                refine W.regionT [(0, true)] (by kernel_rfl) ?_
                refine Plan.assign_bool rfl rfl ?_
                refine Plan.nil ?_
                refine hK667 _ _ ?_; clear hK667
                refine W.ret (thenR_ret (finR_ret ?_))
                have h668 := St.pickT (C := [_, _, _, _, _, _, _, _, _]) h641 [] (by decide)
                simp only [pick, List.filterMap_cons, List.filterMap_nil, List.getElem?_cons_zero, List.getElem?_cons_succ, List.cons_append, List.nil_append] at h668
                subst r
                refine RetOk.mk (.tmp_bool rfl .nil) ?_
                exact ⟨rfl, h668⟩
            ·
              replace hR := ifF hR hc635
              refine Plan.neArrV (b := false) FAesBack.arrI27 rfl rfl rfl (Bool.eq_false_iff.2 hc635) ?_
              refine Plan.move_bool rfl rfl ?_
              refine Plan.passed rfl ?_
              refine Plan.passed rfl ?_
              refine Plan.passed rfl ?_
              refine Plan.passed rfl ?_
              refine Plan.passed rfl ?_
              refine Plan.passed rfl ?_
              refine Plan.passed rfl ?_
              refine Plan.pickTb rfl rfl rfl ?_
              refine Plan.move_bool rfl rfl ?_
              refine Plan.passed rfl ?_
              refine Plan.passed rfl ?_
              refine Plan.passed rfl ?_
              refine Plan.passed rfl ?_
              refine Plan.passed rfl ?_
              refine Plan.passed rfl ?_
              refine Plan.passed rfl ?_
              refine Plan.pickTb rfl rfl rfl ?_
              refine Plan.nil ?_
              refine hK630 _ _ ?_; clear hK630
              refine W.condT rfl ?_
              refine W.seq_k fun K669 hK669 => ?_
              refine W.regionT [(0, true)] (by kernel_rfl) ?_
              refine Plan.assign_bool rfl rfl ?_
              refine Plan.nil ?_
              refine hK669 _ _ ?_; clear hK669
              refine W.ret (thenR_ret (finR_ret ?_))
              have h670 := St.pickT (C := [_, _, _, _, _, _, _, _, _]) h634 [] (by decide)
              simp only [pick, List.filterMap_cons, List.filterMap_nil, List.getElem?_cons_zero, List.getElem?_cons_succ, List.cons_append, List.nil_append] at h670
              subst r
              refine RetOk.mk (.tmp_bool rfl .nil) ?_
              exact ⟨rfl, h670⟩
        ·
          refine PlanT.toLine ?_
          refine Plan.alloc h533 rfl FAesBack.z27 (PIn.cons 5 rfl (PIn.cons 6 rfl PIn.nil)) fun b671 w671 hb671 h671 => ?_
          simp only [rngs, Nat.zero_add, Nat.reduceAdd, List.cons_append, List.nil_append] at h671
          have h672 := St.pickT (C := [_, _, _, _, _, _, _, _, _]) h671 [2, 3, 4, 5, 0, 1, 6, 7, 8] (by decide)
          simp only [pick, List.filterMap_cons, List.filterMap_nil, List.getElem?_cons_zero, List.getElem?_cons_succ, List.cons_append, List.nil_append] at h672
          obtain ⟨x_674, hr673, hR⟩ := hR
          refine Plan.call (vs := [.pointer (some ⟨b0_20, 0, none⟩), AG [(16, fun q => VU .u8 (a2 q))]]) rfl FAesBack.call15 rfl (aes_Cipher_Encrypt_ok  hr673 h672) ?_
          rintro _ w675 ⟨rfl, h675⟩
          refine ⟨_, rfl, .inl ⟨PIn.keep (PIn.cons 6 rfl (PIn.cons 7 rfl PIn.nil)) h675, ?_⟩⟩
          obtain ⟨x_677, hr676, hR⟩ := hR
          refine Plan.call (vs := [.pointer (some ⟨b0_20, 0, none⟩), AG [(16, fun q => VU .u8 (b3 q))]]) rfl FAesBack.call15 rfl (aes_Cipher_Encrypt_ok  hr676 h675) ?_
          rintro _ w678 ⟨rfl, h678⟩
          refine ⟨_, rfl, .inl ⟨PIn.keep (PIn.cons 6 rfl (PIn.cons 7 rfl PIn.nil)) h678, ?_⟩⟩
          refine Plan.storeP (ps := [(16, fun q => VU .u8 (x_674 q))]) h678 rfl rfl rfl (.cons 5 rfl .nil) ⟨fun _ _ => rfl, trivial⟩ FAesBack.sz27 (EffO.keep (PIn.cons 6 rfl (PIn.cons 7 rfl PIn.nil))) fun w679 h679 => ?_
          simp only [List.set_cons_zero, List.set_cons_succ] at h679
          refine Plan.storeA (f' := fun q => VU .u8 (x_677 q)) h679 4 rfl rfl rfl rfl (fun _ _ => rfl) FAesBack.sz27 rfl fun w680 h680 => ?_
          simp only [List.set_cons_zero, List.set_cons_succ] at h680
          refine Plan.nil ?_
          refine hK24 _ _ ?_; clear hK24
          refine W.seq_k fun K681 hK681 => ?_
          refine W.seq_k fun K699 hK699 => ?_
          refine W.regionD FAesBack.mixed [(0, true), (1, true), (3, true), (2, false), (4, true), (5, true), (6, true), (7, true), (8, true), (11, true), (9, false), (10, false), (12, true), (13, true), (14, true), (15, true), (16, true), (17, true), (18, true), (19, true), (20, true), (21, true), (22, true)] (by kernel_rfl) ?_
          have h700 := h680.drew
          refine Plan.move_ptr rfl rfl ?_
          refine Plan.loadA1 h700 5 rfl rfl rfl FAesBack.agg27 ?_
          refine Plan.loadA1 h700 7 rfl rfl rfl FAesBack.agg27 ?_
          obtain ⟨x_702, hr701, hR⟩ := hR
          refine Plan.call (vs := [.pointer (some ⟨b0_20, 0, none⟩), AG [(16, fun q => VU .u8 (x_674 q))]]) rfl FAesBack.call17 rfl (aes_Cipher_Decrypt_ok  hr701 h700) ?_
          rintro _ w703 ⟨rfl, h703⟩
          refine ⟨_, rfl, .inl ⟨PIn.keep (PIn.cons 7 rfl (PIn.cons 5 rfl PIn.nil)) h703, ?_⟩⟩
          by_cases hc704 : (eqB 16 x_702 a2) = true
          ·
            replace hR := ifT hR hc704
            refine Plan.neArrV (b := true) FAesBack.arrI27 rfl rfl rfl hc704 ?_
            refine Plan.move_bool rfl rfl ?_
            refine Plan.move_ptr rfl rfl ?_
            refine Plan.move_ptr rfl rfl ?_
            refine Plan.loadA1 h703 7 rfl rfl rfl FAesBack.agg27 ?_
            refine Plan.loadA1 h703 7 rfl rfl rfl FAesBack.agg27 ?_
            obtain ⟨x_706, hr705, hR⟩ := hR
            refine Plan.call (vs := [.pointer (some ⟨b0_20, 0, none⟩), AG [(16, fun q => VU .u8 (a2 q))]]) rfl FAesBack.call17 rfl (aes_Cipher_Decrypt_ok  hr705 h703) ?_
            rintro _ w707 ⟨rfl, h707⟩
            refine ⟨_, rfl, .inl ⟨PIn.keep (PIn.cons 7 rfl (PIn.cons 7 rfl (PIn.cons 7 rfl (PIn.cons 5 rfl PIn.nil)))) h707, ?_⟩⟩
            obtain ⟨x_709, hr708, hR⟩ := hR
            refine Plan.call (vs := [.pointer (some ⟨b0_20, 0, none⟩), AG [(16, fun q => VU .u8 (x_706 q))]]) rfl FAesBack.call15 rfl (aes_Cipher_Encrypt_ok  hr708 h707) ?_
            rintro _ w710 ⟨rfl, h710⟩
            refine ⟨_, rfl, .inl ⟨PIn.keep (PIn.cons 7 rfl (PIn.cons 7 rfl (PIn.cons 7 rfl (PIn.cons 5 rfl PIn.nil)))) h710, ?_⟩⟩
            by_cases hc711 : (eqB 16 x_709 a2) = true
            ·
              replace hR := ifT hR hc711
              refine Plan.neArrV (b := true) FAesBack.arrI27 rfl rfl rfl hc711 ?_
              refine Plan.pickFb rfl rfl rfl ?_
              refine Plan.move_bool rfl rfl ?_
              refine Plan.loadA1 h710 5 rfl rfl rfl FAesBack.agg27 ?_
              refine Plan.loadA1 h710 4 rfl rfl rfl FAesBack.agg27 ?_
              refine Plan.eqArrV (b := (eqB 16 x_674 x_677)) FAesBack.arrI27 rfl rfl rfl rfl ?_
              refine Plan.loadA1 h710 7 rfl rfl rfl FAesBack.agg27 ?_
              refine Plan.loadA1 h710 6 rfl rfl rfl FAesBack.agg27 ?_
              refine Plan.eqArrV (b := (eqB 16 a2 b3)) FAesBack.arrI27 rfl rfl rfl rfl ?_
              refine Plan.neBoolV (v := ((eqB 16 x_674 x_677) != (eqB 16 a2 b3))) FAesBack.bool4 rfl rfl rfl rfl ?_
              refine Plan.pickFb rfl rfl rfl ?_
              refine Plan.nil ?_
              refine hK699 _ _ ?_; clear hK699
              by_cases hc712 : ((eqB 16 x_674 x_677) != (eqB 16 a2 b3)) = true
              ·
                replace hR := ifT hR hc712
                refine W.condT (congrArg Value.bool hc712) ?_
                refine W.seq_k fun K713 hK713 => ?_
                refine W.regionT [(0, true)] (by kernel_rfl) ?_
                refine Plan.assign_bool rfl rfl ?_
                refine Plan.nil ?_
                refine hK713 _ _ ?_; clear hK713
                refine W.ret (thenR_ret (finR_ret ?_))
                have h714 := St.pickT (C := [_, _, _, _, _, _, _, _, _]) h710 [] (by decide)
                simp only [pick, List.filterMap_cons, List.filterMap_nil, List.getElem?_cons_zero, List.getElem?_cons_succ, List.cons_append, List.nil_append] at h714
                subst r
                refine RetOk.mk (.tmp_bool rfl .nil) ?_
                exact ⟨rfl, h714⟩
              ·
                replace hR := ifF hR hc712
                refine W.condF (congrArg Value.bool (Bool.eq_false_iff.2 hc712)) ?_
                refine W.skip ?_
                refine hK681 _ _ ?_; clear hK681
                refine W.seq_k fun K715 hK715 => ?_
                refine W.regionT [(0, true), (1, false), (2, false), (3, true), (4, true), (5, true), (6, true), (7, false), (8, false), (9, true), (10, true), (11, true), (12, true), (13, true), (14, false), (15, true), (16, true), (17, true), (18, true)] (by kernel_rfl) ?_
                refine Plan.move_int rfl rfl ?_
                obtain ⟨x_717, hr716, hR⟩ := hR
                refine Plan.call (vs := [VU .u8 x_4]) rfl FAesBack.call10 rfl (aes_Box_ok  hr716 h710) ?_
                rintro _ w718 ⟨rfl, h718⟩
                refine ⟨_, rfl, .inl ⟨PIn.keep PIn.nil h718, ?_⟩⟩
                obtain ⟨x_720, hr719, hR⟩ := hR
                refine Plan.call (vs := [VU .u8 x_717]) rfl FAesBack.call18 rfl (aes_Unbox_ok  hr719 h718) ?_
                rintro _ w721 ⟨rfl, h721⟩
                refine ⟨_, rfl, .inl ⟨PIn.keep PIn.nil h721, ?_⟩⟩
                refine Plan.move_int rfl rfl ?_
                by_cases hc722 : x_720 = x_4
                ·
                  replace hR := ifT hR hc722
                  refine Plan.cmpV (a := (x_720.toNat : Int)) (b := (x_4.toNat : Int)) (p := x_720 = x_4) (v := true) rfl rfl rfl rfl icmp_eqU (decide_eq_true hc722) ?_
                  refine Plan.move_bool rfl rfl ?_
                  refine Plan.move_int rfl rfl ?_
                  obtain ⟨x_724, hr723, hR⟩ := hR
                  refine Plan.call (vs := [VU .u8 x_4]) rfl FAesBack.call18 rfl (aes_Unbox_ok  hr723 h721) ?_
                  rintro _ w725 ⟨rfl, h725⟩
                  refine ⟨_, rfl, .inl ⟨PIn.keep PIn.nil h725, ?_⟩⟩
                  obtain ⟨x_727, hr726, hR⟩ := hR
                  refine Plan.call (vs := [VU .u8 x_724]) rfl FAesBack.call10 rfl (aes_Box_ok  hr726 h725) ?_
                  rintro _ w728 ⟨rfl, h728⟩
                  refine ⟨_, rfl, .inl ⟨PIn.keep PIn.nil h728, ?_⟩⟩
                  refine Plan.move_int rfl rfl ?_
                  by_cases hc729 : x_727 = x_4
                  ·
                    replace hR := ifT hR hc729
                    refine Plan.cmpV (a := (x_727.toNat : Int)) (b := (x_4.toNat : Int)) (p := x_727 = x_4) (v := true) rfl rfl rfl rfl icmp_eqU (decide_eq_true hc729) ?_
                    refine Plan.pickTb rfl rfl rfl ?_
                    refine Plan.move_bool rfl rfl ?_
                    refine Plan.move_int rfl rfl ?_
                    obtain ⟨x_731, hr730, hR⟩ := hR
                    refine Plan.call (vs := [VU .u8 x_4]) rfl FAesBack.call10 rfl (aes_Box_ok  hr730 h728) ?_
                    rintro _ w732 ⟨rfl, h732⟩
                    refine ⟨_, rfl, .inl ⟨PIn.keep PIn.nil h732, ?_⟩⟩
                    refine Plan.move_int rfl rfl ?_
                    refine Plan.cmpP (a := (x_731.toNat : Int)) (b := (x_4.toNat : Int)) (p := x_731 ≠ x_4) rfl rfl rfl rfl icmp_neU ?_
                    refine Plan.pickTb rfl rfl rfl ?_
                    refine Plan.assign_bool rfl rfl ?_
                    refine Plan.nil ?_
                    refine hK715 _ _ ?_; clear hK715
                    refine W.ret (finR_ret ?_)
                    have h733 := St.pickT (C := [_, _, _, _, _, _, _, _, _]) h732 [] (by decide)
                    simp only [pick, List.filterMap_cons, List.filterMap_nil, List.getElem?_cons_zero, List.getElem?_cons_succ, List.cons_append, List.nil_append] at h733
                    subst r
                    refine RetOk.mk (.tmp_bool rfl .nil) ?_
                    exact ⟨rfl, h733⟩
                  ·
                    replace hR := ifF hR hc729
                    refine Plan.cmpV (a := (x_727.toNat : Int)) (b := (x_4.toNat : Int)) (p := x_727 = x_4) (v := false) rfl rfl rfl rfl icmp_eqU (decide_eq_false hc729) ?_
                    refine Plan.pickTb rfl rfl rfl ?_
                    refine Plan.move_bool rfl rfl ?_
                    refine Plan.passed rfl ?_
                    refine Plan.passed rfl ?_
                    refine Plan.passed rfl ?_
                    refine Plan.passed rfl ?_
                    refine Plan.pickFb rfl rfl rfl ?_
                    refine Plan.assign_bool rfl rfl ?_
                    refine Plan.nil ?_
                    refine hK715 _ _ ?_; clear hK715
                    refine W.ret (finR_ret ?_)
                    have h734 := St.pickT (C := [_, _, _, _, _, _, _, _, _]) h728 [] (by decide)
                    simp only [pick, List.filterMap_cons, List.filterMap_nil, List.getElem?_cons_zero, List.getElem?_cons_succ, List.cons_append, List.nil_append] at h734
                    subst r
                    refine RetOk.mk (.tmp_bool rfl .nil) ?_
                    exact ⟨rfl, h734⟩
                ·
                  replace hR := ifF hR hc722
                  refine Plan.cmpV (a := (x_720.toNat : Int)) (b := (x_4.toNat : Int)) (p := x_720 = x_4) (v := false) rfl rfl rfl rfl icmp_eqU (decide_eq_false hc722) ?_
                  refine Plan.move_bool rfl rfl ?_
                  refine Plan.passed rfl ?_
                  refine Plan.passed rfl ?_
                  refine Plan.passed rfl ?_
                  refine Plan.passed rfl ?_
                  refine Plan.passed rfl ?_
                  refine Plan.pickFb rfl rfl rfl ?_
                  refine Plan.move_bool rfl rfl ?_
                  refine Plan.passed rfl ?_
                  refine Plan.passed rfl ?_
                  refine Plan.passed rfl ?_
                  refine Plan.passed rfl ?_
                  refine Plan.pickFb rfl rfl rfl ?_
                  refine Plan.assign_bool rfl rfl ?_
                  refine Plan.nil ?_
                  refine hK715 _ _ ?_; clear hK715
                  refine W.ret (finR_ret ?_)
                  have h735 := St.pickT (C := [_, _, _, _, _, _, _, _, _]) h721 [] (by decide)
                  simp only [pick, List.filterMap_cons, List.filterMap_nil, List.getElem?_cons_zero, List.getElem?_cons_succ, List.cons_append, List.nil_append] at h735
                  subst r
                  refine RetOk.mk (.tmp_bool rfl .nil) ?_
                  exact ⟨rfl, h735⟩
            ·
              replace hR := ifF hR hc711
              refine Plan.neArrV (b := false) FAesBack.arrI27 rfl rfl rfl (Bool.eq_false_iff.2 hc711) ?_
              refine Plan.pickFb rfl rfl rfl ?_
              refine Plan.move_bool rfl rfl ?_
              refine Plan.passed rfl ?_
              refine Plan.passed rfl ?_
              refine Plan.passed rfl ?_
              refine Plan.passed rfl ?_
              refine Plan.passed rfl ?_
              refine Plan.passed rfl ?_
              refine Plan.passed rfl ?_
              refine Plan.pickTb rfl rfl rfl ?_
              refine Plan.nil ?_
              refine hK699 _ _ ?_; clear hK699
              refine W.condT rfl ?_
              refine W.seq_k fun K736 hK736 => ?_
              refine W.regionT [(0, true)] (by kernel_rfl) ?_
              refine Plan.assign_bool rfl rfl ?_
              refine Plan.nil ?_
              refine hK736 _ _ ?_; clear hK736
              refine W.ret (thenR_ret (finR_ret ?_))
              have h737 := St.pickT (C := [_, _, _, _, _, _, _, _, _]) h710 [] (by decide)
              simp only [pick, List.filterMap_cons, List.filterMap_nil, List.getElem?_cons_zero, List.getElem?_cons_succ, List.cons_append, List.nil_append] at h737
              subst r
              refine RetOk.mk (.tmp_bool rfl .nil) ?_
              exact ⟨rfl, h737⟩
          ·
            replace hR := ifF hR hc704
            refine Plan.neArrV (b := false) FAesBack.arrI27 rfl rfl rfl (Bool.eq_false_iff.2 hc704) ?_
            refine Plan.move_bool rfl rfl ?_
            refine Plan.passed rfl ?_
            refine Plan.passed rfl ?_
            refine Plan.passed rfl ?_
            refine Plan.passed rfl ?_
            refine Plan.passed rfl ?_
            refine Plan.passed rfl ?_
            refine Plan.passed rfl ?_
            refine Plan.pickTb rfl rfl rfl ?_
            refine Plan.move_bool rfl rfl ?_
            refine Plan.passed rfl ?_
            refine Plan.passed rfl ?_
            refine Plan.passed rfl ?_
            refine Plan.passed rfl ?_
            refine Plan.passed rfl ?_
            refine Plan.passed rfl ?_
            refine Plan.passed rfl ?_
            refine Plan.pickTb rfl rfl rfl ?_
            refine Plan.nil ?_
            refine hK699 _ _ ?_; clear hK699
            refine W.condT rfl ?_
            refine W.seq_k fun K738 hK738 => ?_
            refine W.regionT [(0, true)] (by kernel_rfl) ?_
            refine Plan.assign_bool rfl rfl ?_
            refine Plan.nil ?_
            refine hK738 _ _ ?_; clear hK738
            refine W.ret (thenR_ret (finR_ret ?_))
            have h739 := St.pickT (C := [_, _, _, _, _, _, _, _, _]) h703 [] (by decide)
            simp only [pick, List.filterMap_cons, List.filterMap_nil, List.getElem?_cons_zero, List.getElem?_cons_succ, List.cons_append, List.nil_append] at h739
            subst r
            refine RetOk.mk (.tmp_bool rfl .nil) ?_
            exact ⟨rfl, h739⟩
      ·
        refine PlanT.toFork ?_
        refine Plan.alloc h126 rfl FAesBack.z27 (PIn.cons 4 rfl (PIn.cons 5 rfl PIn.nil)) fun b740 w740 hb740 h740 => ?_
        simp only [rngs, Nat.zero_add, Nat.reduceAdd, List.cons_append, List.nil_append] at h740
        refine Plan.forked ?_ ?_
        ·
          refine PlanT.toFork ?_
          have h741 := St.pickT (C := [_, _, _, _, _, _, _, _]) h740 [1, 2, 3, 4, 0, 5, 6, 7] (by decide)
          simp only [pick, List.filterMap_cons, List.filterMap_nil, List.getElem?_cons_zero, List.getElem?_cons_succ, List.cons_append, List.nil_append] at h741
          obtain ⟨x_743, hr742, hR⟩ := hR
          refine Plan.call (vs := [.pointer (some ⟨b0_20, 0, none⟩), AG [(16, fun q => VU .u8 (a2 q))]]) rfl FAesBack.call15 rfl (aes_Cipher_Encrypt_ok  hr742 h741) ?_
          rintro _ w744 ⟨rfl, h744⟩
          refine ⟨_, rfl, .inl ⟨PIn.keep (PIn.cons 5 rfl (PIn.cons 6 rfl PIn.nil)) h744, ?_⟩⟩
          refine Plan.forked ?_ ?_
          ·
            refine PlanT.toLine ?_
            obtain ⟨x_746, hr745, hR⟩ := hR
            refine Plan.call (vs := [.pointer (some ⟨b0_20, 0, none⟩), AG [(16, fun q => VU .u8 (b3 q))]]) rfl FAesBack.call15 rfl (aes_Cipher_Encrypt_ok  hr745 h744) ?_
            rintro _ w747 ⟨rfl, h747⟩
            refine ⟨_, rfl, .inl ⟨PIn.keep (PIn.cons 5 rfl (PIn.cons 6 rfl PIn.nil)) h747, ?_⟩⟩
            refine Plan.alloc h747 rfl FAesBack.z27 (PIn.cons 5 rfl (PIn.cons 6 rfl PIn.nil)) fun b748 w748 hb748 h748 => ?_
            simp only [rngs, Nat.zero_add, Nat.reduceAdd, List.cons_append, List.nil_append] at h748
            refine Plan.storeP (ps := [(16, fun q => VU .u8 (x_743 q))]) h748 rfl rfl rfl (.cons 0 rfl .nil) ⟨fun _ _ => rfl, trivial⟩ FAesBack.sz27 (EffO.keep (PIn.cons 6 rfl (PIn.cons 7 rfl PIn.nil))) fun w749 h749 => ?_
            simp only [List.set_cons_zero, List.set_cons_succ] at h749
            refine Plan.storeA (f' := fun q => VU .u8 (x_746 q)) h749 5 rfl rfl rfl rfl (fun _ _ => rfl) FAesBack.sz27 rfl fun w750 h750 => ?_
            simp only [List.set_cons_zero, List.set_cons_succ] at h750
            refine Plan.nil ?_
            refine hK24 _ _ ?_; clear hK24
            refine W.seq_k fun K751 hK751 => ?_
            refine W.seq_k fun K770 hK770 => ?_
            refine W.regionD FAesBack.mixed [(0, true), (1, true), (3, true), (2, false), (4, true), (5, true), (6, true), (7, true), (8, true), (11, true), (9, false), (10, false), (12, true), (13, true), (14, true), (15, true), (16, true), (17, true), (18, true), (19, true), (20, true), (21, true), (22, true)] (by kernel_rfl) ?_
            have h771 := h750.drew
            refine Plan.move_ptr rfl rfl ?_
            refine Plan.loadA1 h771 0 rfl rfl rfl FAesBack.agg27 ?_
            refine Plan.loadA1 h771 7 rfl rfl rfl FAesBack.agg27 ?_
            have h772 := St.pickT (C := [_, _, _, _, _, _, _, _, _]) h771 [1, 2, 3, 4, 0, 5, 6, 7, 8] (by decide)
            simp only [pick, List.filterMap_cons, List.filterMap_nil, List.getElem?_cons_zero, List.getElem?_cons_succ, List.cons_append, List.nil_append] at h772
            obtain ⟨x_774, hr773, hR⟩ := hR
            refine Plan.call (vs := [.pointer (some ⟨b0_20, 0, none⟩), AG [(16, fun q => VU .u8 (x_743 q))]]) rfl FAesBack.call17 rfl (aes_Cipher_Decrypt_ok  hr773 h772) ?_
            rintro _ w775 ⟨rfl, h775⟩
            refine ⟨_, rfl, .inl ⟨PIn.keep (PIn.cons 7 rfl (PIn.cons 4 rfl PIn.nil)) h775, ?_⟩⟩
            by_cases hc776 : (eqB 16 x_774 a2) = true
            ·
              replace hR := ifT hR hc776
              refine Plan.neArrV (b := true) FAesBack.arrI27 rfl rfl rfl hc776 ?_
              refine Plan.move_bool rfl rfl ?_
              refine Plan.move_ptr rfl rfl ?_
              refine Plan.move_ptr rfl rfl ?_
              refine Plan.loadA1 h775 7 rfl rfl rfl FAesBack.agg27 ?_
              refine Plan.loadA1 h775 7 rfl rfl rfl FAesBack.agg27 ?_
              obtain ⟨x_778, hr777, hR⟩ := hR
              refine Plan.call (vs := [.pointer (some ⟨b0_20, 0, none⟩), AG [(16, fun q => VU .u8 (a2 q))]]) rfl FAesBack.call17 rfl (aes_Cipher_Decrypt_ok  hr777 h775) ?_
              rintro _ w779 ⟨rfl, h779⟩
              refine ⟨_, rfl, .inl ⟨PIn.keep (PIn.cons 7 rfl (PIn.cons 7 rfl (PIn.cons 7 rfl (PIn.cons 4 rfl PIn.nil)))) h779, ?_⟩⟩
              obtain ⟨x_781, hr780, hR⟩ := hR
              refine Plan.call (vs := [.pointer (some ⟨b0_20, 0, none⟩), AG [(16, fun q => VU .u8 (x_778 q))]]) rfl FAesBack.call15 rfl (aes_Cipher_Encrypt_ok  hr780 h779) ?_
              rintro _ w782 ⟨rfl, h782⟩
              refine ⟨_, rfl, .inl ⟨PIn.keep (PIn.cons 7 rfl (PIn.cons 7 rfl (PIn.cons 7 rfl (PIn.cons 4 rfl PIn.nil)))) h782, ?_⟩⟩
              by_cases hc783 : (eqB 16 x_781 a2) = true
              ·
                replace hR := ifT hR hc783
                refine Plan.neArrV (b := true) FAesBack.arrI27 rfl rfl rfl hc783 ?_
                refine Plan.pickFb rfl rfl rfl ?_
                refine Plan.move_bool rfl rfl ?_
                refine Plan.loadA1 h782 4 rfl rfl rfl FAesBack.agg27 ?_
                refine Plan.loadA1 h782 5 rfl rfl rfl FAesBack.agg27 ?_
                refine Plan.eqArrV (b := (eqB 16 x_743 x_746)) FAesBack.arrI27 rfl rfl rfl rfl ?_
                refine Plan.loadA1 h782 7 rfl rfl rfl FAesBack.agg27 ?_
                refine Plan.loadA1 h782 6 rfl rfl rfl FAesBack.agg27 ?_
                refine Plan.eqArrV (b := (eqB 16 a2 b3)) FAesBack.arrI27 rfl rfl rfl rfl ?_
                refine Plan.neBoolV (v := ((eqB 16 x_743 x_746) != (eqB 16 a2 b3))) FAesBack.bool4 rfl rfl rfl rfl ?_
                refine Plan.pickFb rfl rfl rfl ?_
                refine Plan.nil ?_
                refine hK770 _ _ ?_; clear hK770
                by_cases hc784 : ((eqB 16 x_743 x_746) != (eqB 16 a2 b3)) = true
                ·
                  replace hR := ifT hR hc784
                  refine W.condT (congrArg Value.bool hc784) ?_
                  refine W.seq_k fun K785 hK785 => ?_
                  refine W.regionT [(0, true)] (by kernel_rfl) ?_
                  refine Plan.assign_bool rfl rfl ?_
                  refine Plan.nil ?_
                  refine hK785 _ _ ?_; clear hK785
                  refine W.ret (thenR_ret (finR_ret ?_))
                  have h786 := St.pickT (C := [_, _, _, _, _, _, _, _, _]) h782 [] (by decide)
                  simp only [pick, List.filterMap_cons, List.filterMap_nil, List.getElem?_cons_zero, List.getElem?_cons_succ, List.cons_append, List.nil_append] at h786
                  subst r
                  refine RetOk.mk (.tmp_bool rfl .nil) ?_
                  exact ⟨rfl, h786⟩
                ·
                  replace hR := ifF hR hc784
                  refine W.condF (congrArg Value.bool (Bool.eq_false_iff.2 hc784)) ?_
                  refine W.skip ?_
                  refine hK751 _ _ ?_; clear hK751
                  refine W.seq_k fun K787 hK787 => ?_
                  refine W.regionT [(0, true), (1, false), (2, false), (3, true), (4, true), (5, true), (6, true), (7, false), (8, false), (9, true), (10, true), (11, true), (12, true), (13, true), (14, false), (15, true), (16, true), (17, true), (18, true)] (by kernel_rfl) ?_
                  refine Plan.move_int rfl rfl ?_
                  obtain ⟨x_789, hr788, hR⟩ := hR
                  refine Plan.call (vs := [VU .u8 x_4]) rfl FAesBack.call10 rfl (aes_Box_ok  hr788 h782) ?_
                  rintro _ w790 ⟨rfl, h790⟩
                  refine ⟨_, rfl, .inl ⟨PIn.keep PIn.nil h790, ?_⟩⟩
                  obtain ⟨x_792, hr791, hR⟩ := hR
                  refine Plan.call (vs := [VU .u8 x_789]) rfl FAesBack.call18 rfl (aes_Unbox_ok  hr791 h790) ?_
                  rintro _ w793 ⟨rfl, h793⟩
                  refine ⟨_, rfl, .inl ⟨PIn.keep PIn.nil h793, ?_⟩⟩
                  refine Plan.move_int rfl rfl ?_
                  by_cases hc794 : x_792 = x_4
                  ·
                    replace hR := ifT hR hc794
                    refine Plan.cmpV (a := (x_792.toNat : Int)) (b := (x_4.toNat : Int)) (p := x_792 = x_4) (v := true) rfl rfl rfl rfl icmp_eqU (decide_eq_true hc794) ?_
                    refine Plan.move_bool rfl rfl ?_
                    refine Plan.move_int rfl rfl ?_
                    obtain ⟨x_796, hr795, hR⟩ := hR
                    refine Plan.call (vs := [VU .u8 x_4]) rfl FAesBack.call18 rfl (aes_Unbox_ok  hr795 h793) ?_
                    rintro _ w797 ⟨rfl, h797⟩
                    refine ⟨_, rfl, .inl ⟨PIn.keep PIn.nil h797, ?_⟩⟩
                    obtain ⟨x_799, hr798, hR⟩ := hR
                    refine Plan.call (vs := [VU .u8 x_796]) rfl FAesBack.call10 rfl (aes_Box_ok  hr798 h797) ?_
                    rintro _ w800 ⟨rfl, h800⟩
                    refine ⟨_, rfl, .inl ⟨PIn.keep PIn.nil h800, ?_⟩⟩
                    refine Plan.move_int rfl rfl ?_
                    by_cases hc801 : x_799 = x_4
                    ·
                      replace hR := ifT hR hc801
                      refine Plan.cmpV (a := (x_799.toNat : Int)) (b := (x_4.toNat : Int)) (p := x_799 = x_4) (v := true) rfl rfl rfl rfl icmp_eqU (decide_eq_true hc801) ?_
                      refine Plan.pickTb rfl rfl rfl ?_
                      refine Plan.move_bool rfl rfl ?_
                      refine Plan.move_int rfl rfl ?_
                      obtain ⟨x_803, hr802, hR⟩ := hR
                      refine Plan.call (vs := [VU .u8 x_4]) rfl FAesBack.call10 rfl (aes_Box_ok  hr802 h800) ?_
                      rintro _ w804 ⟨rfl, h804⟩
                      refine ⟨_, rfl, .inl ⟨PIn.keep PIn.nil h804, ?_⟩⟩
                      refine Plan.move_int rfl rfl ?_
                      refine Plan.cmpP (a := (x_803.toNat : Int)) (b := (x_4.toNat : Int)) (p := x_803 ≠ x_4) rfl rfl rfl rfl icmp_neU ?_
                      refine Plan.pickTb rfl rfl rfl ?_
                      refine Plan.assign_bool rfl rfl ?_
                      refine Plan.nil ?_
                      refine hK787 _ _ ?_; clear hK787
                      refine W.ret (finR_ret ?_)
                      have h805 := St.pickT (C := [_, _, _, _, _, _, _, _, _]) h804 [] (by decide)
                      simp only [pick, List.filterMap_cons, List.filterMap_nil, List.getElem?_cons_zero, List.getElem?_cons_succ, List.cons_append, List.nil_append] at h805
                      subst r
                      refine RetOk.mk (.tmp_bool rfl .nil) ?_
                      exact ⟨rfl, h805⟩
                    ·
                      replace hR := ifF hR hc801
                      refine Plan.cmpV (a := (x_799.toNat : Int)) (b := (x_4.toNat : Int)) (p := x_799 = x_4) (v := false) rfl rfl rfl rfl icmp_eqU (decide_eq_false hc801) ?_
                      refine Plan.pickTb rfl rfl rfl ?_
                      refine Plan.move_bool rfl rfl ?_
                      refine Plan.passed rfl ?_
                      refine Plan.passed rfl ?_
                      refine Plan.passed rfl ?_
                      refine Plan.passed rfl ?_
                      refine Plan.pickFb rfl rfl rfl ?_
                      refine Plan.assign_bool rfl rfl ?_
                      refine Plan.nil ?_
                      refine hK787 _ _ ?_; clear hK787
                      refine W.ret (finR_ret ?_)
                      have h806 := St.pickT (C := [_, _, _, _, _, _, _, _, _]) h800 [] (by decide)
                      simp only [pick, List.filterMap_cons, List.filterMap_nil, List.getElem?_cons_zero, List.getElem?_cons_succ, List.cons_append, List.nil_append] at h806
                      subst r
                      refine RetOk.mk (.tmp_bool rfl .nil) ?_
                      exact ⟨rfl, h806⟩
                  ·
                    replace hR := ifF hR hc794
                    refine Plan.cmpV (a := (x_792.toNat : Int)) (b := (x_4.toNat : Int)) (p := x_792 = x_4) (v := false) rfl rfl rfl rfl icmp_eqU (decide_eq_false hc794) ?_
                    refine Plan.move_bool rfl rfl ?_
                    refine Plan.passed rfl ?_
                    refine Plan.passed rfl ?_
                    refine Plan.passed rfl ?_
                    refine Plan.passed rfl ?_
                    refine Plan.passed rfl ?_
                    refine Plan.pickFb rfl rfl rfl ?_
                    refine Plan.move_bool rfl rfl ?_
                    refine Plan.passed rfl ?_
                    refine Plan.passed rfl ?_
                    refine Plan.passed rfl ?_
                    refine Plan.passed rfl ?_
                    refine Plan.pickFb rfl rfl rfl ?_
                    refine Plan.assign_bool rfl rfl ?_
                    refine Plan.nil ?_
                    refine hK787 _ _ ?_; clear hK787
                    refine W.ret (finR_ret ?_)
                    have h807 := St.pickT (C := [_, _, _, _, _, _, _, _, _]) h793 [] (by decide)
                    simp only [pick, List.filterMap_cons, List.filterMap_nil, List.getElem?_cons_zero, List.getElem?_cons_succ, List.cons_append, List.nil_append] at h807
                    subst r
                    refine RetOk.mk (.tmp_bool rfl .nil) ?_
                    exact ⟨rfl, h807⟩
              ·
                replace hR := ifF hR hc783
                refine Plan.neArrV (b := false) FAesBack.arrI27 rfl rfl rfl (Bool.eq_false_iff.2 hc783) ?_
                refine Plan.pickFb rfl rfl rfl ?_
                refine Plan.move_bool rfl rfl ?_
                refine Plan.passed rfl ?_
                refine Plan.passed rfl ?_
                refine Plan.passed rfl ?_
                refine Plan.passed rfl ?_
                refine Plan.passed rfl ?_
                refine Plan.passed rfl ?_
                refine Plan.passed rfl ?_
                refine Plan.pickTb rfl rfl rfl ?_
                refine Plan.nil ?_
                refine hK770 _ _ ?_; clear hK770
                refine W.condT rfl ?_
                refine W.seq_k fun K808 hK808 => ?_
                refine W.regionT [(0, true)] (by kernel_rfl) ?_
                refine Plan.assign_bool rfl rfl ?_
                refine Plan.nil ?_
                refine hK808 _ _ ?_; clear hK808
                refine W.ret (thenR_ret (finR_ret ?_))
                have h809 := St.pickT (C := [_, _, _, _, _, _, _, _, _]) h782 [] (by decide)
                simp only [pick, List.filterMap_cons, List.filterMap_nil, List.getElem?_cons_zero, List.getElem?_cons_succ, List.cons_append, List.nil_append] at h809
                subst r
                refine RetOk.mk (.tmp_bool rfl .nil) ?_
                exact ⟨rfl, h809⟩
            ·
              replace hR := ifF hR hc776
              refine Plan.neArrV (b := false) FAesBack.arrI27 rfl rfl rfl (Bool.eq_false_iff.2 hc776) ?_
              refine Plan.move_bool rfl rfl ?_
              refine Plan.passed rfl ?_
              refine Plan.passed rfl ?_
              refine Plan.passed rfl ?_
              refine Plan.passed rfl ?_
              refine Plan.passed rfl ?_
              refine Plan.passed rfl ?_
              refine Plan.passed rfl ?_
              refine Plan.pickTb rfl rfl rfl ?_
              refine Plan.move_bool rfl rfl ?_
              refine Plan.passed rfl ?_
              refine Plan.passed rfl ?_
              refine Plan.passed rfl ?_
              refine Plan.passed rfl ?_
              refine Plan.passed rfl ?_
              refine Plan.passed rfl ?_
              refine Plan.passed rfl ?_
              refine Plan.pickTb rfl rfl rfl ?_
              refine Plan.nil ?_
              refine hK770 _ _ ?_; clear hK770
              refine W.condT rfl ?_
              refine W.seq_k fun K810 hK810 => ?_
              refine W.regionT [(0, true)] (by kernel_rfl) ?_
              refine Plan.assign_bool rfl rfl ?_
              refine Plan.nil ?_
              refine hK810 _ _ ?_; clear hK810
              refine W.ret (thenR_ret (finR_ret ?_))
              have h811 := St.pickT (C := [_, _, _, _, _, _, _, _, _]) h775 [] (by decide)
              simp only [pick, List.filterMap_cons, List.filterMap_nil, List.getElem?_cons_zero, List.getElem?_cons_succ, List.cons_append, List.nil_append] at h811
              subst r
              refine RetOk.mk (.tmp_bool rfl .nil) ?_
              exact ⟨rfl, h811⟩
          ·
            refine PlanT.toLine ?_
            refine Plan.alloc h744 rfl FAesBack.z27 (PIn.cons 5 rfl (PIn.cons 6 rfl PIn.nil)) fun b812 w812 hb812 h812 => ?_
            simp only [rngs, Nat.zero_add, Nat.reduceAdd, List.cons_append, List.nil_append] at h812
            have h813 := St.pickT (C := [_, _, _, _, _, _, _, _, _]) h812 [1, 2, 3, 4, 0, 5, 6, 7, 8] (by decide)
            simp only [pick, List.filterMap_cons, List.filterMap_nil, List.getElem?_cons_zero, List.getElem?_cons_succ, List.cons_append, List.nil_append] at h813
            obtain ⟨x_815, hr814, hR⟩ := hR
            refine Plan.call (vs := [.pointer (some ⟨b0_20, 0, none⟩), AG [(16, fun q => VU .u8 (b3 q))]]) rfl FAesBack.call15 rfl (aes_Cipher_Encrypt_ok  hr814 h813) ?_
            rintro _ w816 ⟨rfl, h816⟩
            refine ⟨_, rfl, .inl ⟨PIn.keep (PIn.cons 6 rfl (PIn.cons 7 rfl PIn.nil)) h816, ?_⟩⟩
            refine Plan.storeP (ps := [(16, fun q => VU .u8 (x_743 q))]) h816 rfl rfl rfl (.cons 4 rfl .nil) ⟨fun _ _ => rfl, trivial⟩ FAesBack.sz27 (EffO.keep (PIn.cons 6 rfl (PIn.cons 7 rfl PIn.nil))) fun w817 h817 => ?_
            simp only [List.set_cons_zero, List.set_cons_succ] at h817
            refine Plan.storeA (f' := fun q => VU .u8 (x_815 q)) h817 5 rfl rfl rfl rfl (fun _ _ => rfl) FAesBack.sz27 rfl fun w818 h818 => ?_
            simp only [List.set_cons_zero, List.set_cons_succ] at h818
            refine Plan.nil ?_
            refine hK24 _ _ ?_; clear hK24
            refine W.seq_k fun K819 hK819 => ?_
            refine W.seq_k fun K837 hK837 => ?_
            refine W.regionD FAesBack.mixed [(0, true), (1, true), (3, true), (2, false), (4, true), (5, true), (6, true), (7, true), (8, true), (11, true), (9, false), (10, false), (12, true), (13, true), (14, true), (15, true), (16, true), (17, true), (18, true), (19, true), (20, true), (21, true), (22, true)] (by kernel_rfl) ?_
            have h838 := h818.drew
            refine Plan.move_ptr rfl rfl ?_
            refine Plan.loadA1 h838 4 rfl rfl rfl FAesBack.agg27 ?_
            refine Plan.loadA1 h838 7 rfl rfl rfl FAesBack.agg27 ?_
            obtain ⟨x_840, hr839, hR⟩ := hR
            refine Plan.call (vs := [.pointer (some ⟨b0_20, 0, none⟩), AG [(16, fun q => VU .u8 (x_743 q))]]) rfl FAesBack.call17 rfl (aes_Cipher_Decrypt_ok  hr839 h838) ?_
            rintro _ w841 ⟨rfl, h841⟩
            refine ⟨_, rfl, .inl ⟨PIn.keep (PIn.cons 7 rfl (PIn.cons 4 rfl PIn.nil)) h841, ?_⟩⟩
            by_cases hc842 : (eqB 16 x_840 a2) = true
            ·
              replace hR := ifT hR hc842
              refine Plan.neArrV (b := true) FAesBack.arrI27 rfl rfl rfl hc842 ?_
              refine Plan.move_bool rfl rfl ?_
              refine Plan.move_ptr rfl rfl ?_
              refine Plan.move_ptr rfl rfl ?_
              refine Plan.loadA1 h841 7 rfl rfl rfl FAesBack.agg27 ?_
              refine Plan.loadA1 h841 7 rfl rfl rfl FAesBack.agg27 ?_
              obtain ⟨x_844, hr843, hR⟩ := hR
              refine Plan.call (vs := [.pointer (some ⟨b0_20, 0, none⟩), AG [(16, fun q => VU .u8 (a2 q))]]) rfl FAesBack.call17 rfl (aes_Cipher_Decrypt_ok  hr843 h841) ?_
              rintro _ w845 ⟨rfl, h845⟩
              refine ⟨_, rfl, .inl ⟨PIn.keep (PIn.cons 7 rfl (PIn.cons 7 rfl (PIn.cons 7 rfl (PIn.cons 4 rfl PIn.nil)))) h845, ?_⟩⟩
              obtain ⟨x_847, hr846, hR⟩ := hR
              refine Plan.call (vs := [.pointer (some ⟨b0_20, 0, none⟩), AG [(16, fun q => VU .u8 (x_844 q))]]) rfl FAesBack.call15 rfl (aes_Cipher_Encrypt_ok  hr846 h845) ?_
              rintro _ w848 ⟨rfl, h848⟩
              refine ⟨_, rfl, .inl ⟨PIn.keep (PIn.cons 7 rfl (PIn.cons 7 rfl (PIn.cons 7 rfl (PIn.cons 4 rfl PIn.nil)))) h848, ?_⟩⟩
              by_cases hc849 : (eqB 16 x_847 a2) = true
              ·
                replace hR := ifT hR hc849
                refine Plan.neArrV (b := true) FAesBack.arrI27 rfl rfl rfl hc849 ?_
                refine Plan.pickFb rfl rfl rfl ?_
                refine Plan.move_bool rfl rfl ?_
                refine Plan.loadA1 h848 4 rfl rfl rfl FAesBack.agg27 ?_
                refine Plan.loadA1 h848 5 rfl rfl rfl FAesBack.agg27 ?_
                refine Plan.eqArrV (b := (eqB 16 x_743 x_815)) FAesBack.arrI27 rfl rfl rfl rfl ?_
                refine Plan.loadA1 h848 7 rfl rfl rfl FAesBack.agg27 ?_
                refine Plan.loadA1 h848 6 rfl rfl rfl FAesBack.agg27 ?_
                refine Plan.eqArrV (b := (eqB 16 a2 b3)) FAesBack.arrI27 rfl rfl rfl rfl ?_
                refine Plan.neBoolV (v := ((eqB 16 x_743 x_815) != (eqB 16 a2 b3))) FAesBack.bool4 rfl rfl rfl rfl ?_
                refine Plan.pickFb rfl rfl rfl ?_
                refine Plan.nil ?_
                refine hK837 _ _ ?_; clear hK837
                by_cases hc850 : ((eqB 16 x_743 x_815) != (eqB 16 a2 b3)) = true
                ·
                  replace hR := ifT hR hc850
                  refine W.condT (congrArg Value.bool hc850) ?_
                  refine W.seq_k fun K851 hK851 => ?_
                  refine W.regionT [(0, true)] (by kernel_rfl) ?_
                  refine Plan.assign_bool rfl rfl ?_
                  refine Plan.nil ?_
                  refine hK851 _ _ ?_; clear hK851
                  refine W.ret (thenR_ret (finR_ret ?_))
                  have h852 := St.pickT (C := [_, _, _, _, _, _, _, _, _]) h848 [] (by decide)
                  simp only [pick, List.filterMap_cons, List.filterMap_nil, List.getElem?_cons_zero, List.getElem?_cons_succ, List.cons_append, List.nil_append] at h852
                  subst r
                  refine RetOk.mk (.tmp_bool rfl .nil) ?_
                  exact ⟨rfl, h852⟩
                ·
                  replace hR := ifF hR hc850
                  refine W.condF (congrArg Value.bool (Bool.eq_false_iff.2 hc850)) ?_
                  refine W.skip ?_
                  refine hK819 _ _ ?_; clear hK819
                  refine W.seq_k fun K853 hK853 => ?_
                  refine W.regionT [(0, true), (1, false), (2, false), (3, true), (4, true), (5, true), (6, true), (7, false), (8, false), (9, true), (10, true), (11, true), (12, true), (13, true), (14, false), (15, true), (16, true), (17, true), (18, true)] (by kernel_rfl) ?_
                  refine Plan.move_int rfl rfl ?_
                  obtain ⟨x_855, hr854, hR⟩ := hR
                  refine Plan.call (vs := [VU .u8 x_4]) rfl FAesBack.call10 rfl (aes_Box_ok  hr854 h848) ?_
                  rintro _ w856 ⟨rfl, h856⟩
                  refine ⟨_, rfl, .inl ⟨PIn.keep PIn.nil h856, ?_⟩⟩
                  obtain ⟨x_858, hr857, hR⟩ := hR
                  refine Plan.call (vs := [VU .u8 x_855]) rfl FAesBack.call18 rfl (aes_Unbox_ok  hr857 h856) ?_
                  rintro _ w859 ⟨rfl, h859⟩
                  refine ⟨_, rfl, .inl ⟨PIn.keep PIn.nil h859, ?_⟩⟩
                  refine Plan.move_int rfl rfl ?_
                  by_cases hc860 : x_858 = x_4
                  ·
                    replace hR := ifT hR hc860
                    refine Plan.cmpV (a := (x_858.toNat : Int)) (b := (x_4.toNat : Int)) (p := x_858 = x_4) (v := true) rfl rfl rfl rfl icmp_eqU (decide_eq_true hc860) ?_
                    refine Plan.move_bool rfl rfl ?_
                    refine Plan.move_int rfl rfl ?_
                    obtain ⟨x_862, hr861, hR⟩ := hR
                    refine Plan.call (vs := [VU .u8 x_4]) rfl FAesBack.call18 rfl (aes_Unbox_ok  hr861 h859) ?_
                    rintro _ w863 ⟨rfl, h863⟩
                    refine ⟨_, rfl, .inl ⟨PIn.keep PIn.nil h863, ?_⟩⟩
                    obtain ⟨x_865, hr864, hR⟩ := hR
                    refine Plan.call (vs := [VU .u8 x_862]) rfl FAesBack.call10 rfl (aes_Box_ok  hr864 h863) ?_
                    rintro _ w866 ⟨rfl, h866⟩
                    refine ⟨_, rfl, .inl ⟨PIn.keep PIn.nil h866, ?_⟩⟩
                    refine Plan.move_int rfl rfl ?_
                    by_cases hc867 : x_865 = x_4
                    ·
                      replace hR := ifT hR hc867
                      refine Plan.cmpV (a := (x_865.toNat : Int)) (b := (x_4.toNat : Int)) (p := x_865 = x_4) (v := true) rfl rfl rfl rfl icmp_eqU (decide_eq_true hc867) ?_
                      refine Plan.pickTb rfl rfl rfl ?_
                      refine Plan.move_bool rfl rfl ?_
                      refine Plan.move_int rfl rfl ?_
                      obtain ⟨x_869, hr868, hR⟩ := hR
                      refine Plan.call (vs := [VU .u8 x_4]) rfl FAesBack.call10 rfl (aes_Box_ok  hr868 h866) ?_
                      rintro _ w870 ⟨rfl, h870⟩
                      refine ⟨_, rfl, .inl ⟨PIn.keep PIn.nil h870, ?_⟩⟩
                      refine Plan.move_int rfl rfl ?_
                      refine Plan.cmpP (a := (x_869.toNat : Int)) (b := (x_4.toNat : Int)) (p := x_869 ≠ x_4) rfl rfl rfl rfl icmp_neU ?_
                      refine Plan.pickTb rfl rfl rfl ?_
                      refine Plan.assign_bool rfl rfl ?_
                      refine Plan.nil ?_
                      refine hK853 _ _ ?_; clear hK853
                      refine W.ret (finR_ret ?_)
                      have h871 := St.pickT (C := [_, _, _, _, _, _, _, _, _]) h870 [] (by decide)
                      simp only [pick, List.filterMap_cons, List.filterMap_nil, List.getElem?_cons_zero, List.getElem?_cons_succ, List.cons_append, List.nil_append] at h871
                      subst r
                      refine RetOk.mk (.tmp_bool rfl .nil) ?_
                      exact ⟨rfl, h871⟩
                    ·
                      replace hR := ifF hR hc867
                      refine Plan.cmpV (a := (x_865.toNat : Int)) (b := (x_4.toNat : Int)) (p := x_865 = x_4) (v := false) rfl rfl rfl rfl icmp_eqU (decide_eq_false hc867) ?_
                      refine Plan.pickTb rfl rfl rfl ?_
                      refine Plan.move_bool rfl rfl ?_
                      refine Plan.passed rfl ?_
                      refine Plan.passed rfl ?_
                      refine Plan.passed rfl ?_
                      refine Plan.passed rfl ?_
                      refine Plan.pickFb rfl rfl rfl ?_
                      refine Plan.assign_bool rfl rfl ?_
                      refine Plan.nil ?_
                      refine hK853 _ _ ?_; clear hK853
                      refine W.ret (finR_ret ?_)
                      have h872 := St.pickT (C := [_, _, _, _, _, _, _, _, _]) h866 [] (by decide)
                      simp only [pick, List.filterMap_cons, List.filterMap_nil, List.getElem?_cons_zero, List.getElem?_cons_succ, List.cons_append, List.nil_append] at h872
                      subst r
                      refine RetOk.mk (.tmp_bool rfl .nil) ?_
                      exact ⟨rfl, h872⟩
                  ·
                    replace hR := ifF hR hc860
                    refine Plan.cmpV (a := (x_858.toNat : Int)) (b := (x_4.toNat : Int)) (p := x_858 = x_4) (v := false) rfl rfl rfl rfl icmp_eqU (decide_eq_false hc860) ?_
                    refine Plan.move_bool rfl rfl ?_
                    refine Plan.passed rfl ?_
                    refine Plan.passed rfl ?_
                    refine Plan.passed rfl ?_
                    refine Plan.passed rfl ?_
                    refine Plan.passed rfl ?_
                    refine Plan.pickFb rfl rfl rfl ?_
                    refine Plan.move_bool rfl rfl ?_
                    refine Plan.passed rfl ?_
                    refine Plan.passed rfl ?_
                    refine Plan.passed rfl ?_
                    refine Plan.passed rfl ?_
                    refine Plan.pickFb rfl rfl rfl ?_
                    refine Plan.assign_bool rfl rfl ?_
                    refine Plan.nil ?_
                    refine hK853 _ _ ?_; clear hK853
                    refine W.ret (finR_ret ?_)
                    have h873 := St.pickT (C := [_, _, _, _, _, _, _, _, _]) h859 [] (by decide)
                    simp only [pick, List.filterMap_cons, List.filterMap_nil, List.getElem?_cons_zero, List.getElem?_cons_succ, List.cons_append, List.nil_append] at h873
                    subst r
                    refine RetOk.mk (.tmp_bool rfl .nil) ?_
                    exact ⟨rfl, h873⟩
              ·
                replace hR := ifF hR hc849
                refine Plan.neArrV (b := false) FAesBack.arrI27 rfl rfl rfl (Bool.eq_false_iff.2 hc849) ?_
                refine Plan.pickFb rfl rfl rfl ?_
                refine Plan.move_bool rfl rfl ?_
                refine Plan.passed rfl ?_
                refine Plan.passed rfl ?_
                refine Plan.passed rfl ?_
                refine Plan.passed rfl ?_
                refine Plan.passed rfl ?_
                refine Plan.passed rfl ?_
                refine Plan.passed rfl ?_
                refine Plan.pickTb rfl rfl rfl ?_
                refine Plan.nil ?_
                refine hK837 _ _ ?_; clear hK837
                refine W.condT rfl ?_
                refine W.seq_k fun K874 hK874 => ?_
                refine W.regionT [(0, true)] (by kernel_rfl) ?_
                refine Plan.assign_bool rfl rfl ?_
                refine Plan.nil ?_
                refine hK874 _ _ ?_; clear hK874
                refine W.ret (thenR_ret (finR_ret ?_))
                have h875 := St.pickT (C := [_, _, _, _, _, _, _, _, _]) h848 [] (by decide)
                simp only [pick, List.filterMap_cons, List.filterMap_nil, List.getElem?_cons_zero, List.getElem?_cons_succ, List.cons_append, List.nil_append] at h875
                subst r
                refine RetOk.mk (.tmp_bool rfl .nil) ?_
                exact ⟨rfl, h875⟩
            ·
              replace hR := ifF hR hc842
              refine Plan.neArrV (b := false) FAesBack.arrI27 rfl rfl rfl (Bool.eq_false_iff.2 hc842) ?_
              refine Plan.move_bool rfl rfl ?_
              refine Plan.passed rfl ?_
              refine Plan.passed rfl ?_
              refine Plan.passed rfl ?_
              refine Plan.passed rfl ?_
              refine Plan.passed rfl ?_
              refine Plan.passed rfl ?_
              refine Plan.passed rfl ?_
              refine Plan.pickTb rfl rfl rfl ?_
              refine Plan.move_bool rfl rfl ?_
              refine Plan.passed rfl ?_
              refine Plan.passed rfl ?_
              refine Plan.passed rfl ?_
              refine Plan.passed rfl ?_
              refine Plan.passed rfl ?_
              refine Plan.passed rfl ?_
              refine Plan.passed rfl ?_
              refine Plan.pickTb rfl rfl rfl ?_
              refine Plan.nil ?_
              refine hK837 _ _ ?_; clear hK837
              refine W.condT rfl ?_
              refine W.seq_k fun K876 hK876 => ?_
              refine W.regionT [(0, true)] (by kernel_rfl) ?_
              refine Plan.assign_bool rfl rfl ?_
              refine Plan.nil ?_
              refine hK876 _ _ ?_; clear hK876
              refine W.ret (thenR_ret (finR_ret ?_))
              have h877 := St.pickT (C := [_, _, _, _, _, _, _, _, _]) h841 [] (by decide)
              simp only [pick, List.filterMap_cons, List.filterMap_nil, List.getElem?_cons_zero, List.getElem?_cons_succ, List.cons_append, List.nil_append] at h877
              subst r
              refine RetOk.mk (.tmp_bool rfl .nil) ?_
              exact ⟨rfl, h877⟩
        ·
          refine PlanT.toLine ?_
          refine Plan.alloc h740 rfl FAesBack.z27 (PIn.cons 5 rfl (PIn.cons 6 rfl PIn.nil)) fun b878 w878 hb878 h878 => ?_
          simp only [rngs, Nat.zero_add, Nat.reduceAdd, List.cons_append, List.nil_append] at h878
          have h879 := St.pickT (C := [_, _, _, _, _, _, _, _, _]) h878 [2, 3, 4, 5, 0, 1, 6, 7, 8] (by decide)
          simp only [pick, List.filterMap_cons, List.filterMap_nil, List.getElem?_cons_zero, List.getElem?_cons_succ, List.cons_append, List.nil_append] at h879
          obtain ⟨x_881, hr880, hR⟩ := hR
          refine Plan.call (vs := [.pointer (some ⟨b0_20, 0, none⟩), AG [(16, fun q => VU .u8 (a2 q))]]) rfl FAesBack.call15 rfl (aes_Cipher_Encrypt_ok  hr880 h879) ?_
          rintro _ w882 ⟨rfl, h882⟩
          refine ⟨_, rfl, .inl ⟨PIn.keep (PIn.cons 6 rfl (PIn.cons 7 rfl PIn.nil)) h882, ?_⟩⟩
          obtain ⟨x_884, hr883, hR⟩ := hR
          refine Plan.call (vs := [.pointer (some ⟨b0_20, 0, none⟩), AG [(16, fun q => VU .u8 (b3 q))]]) rfl FAesBack.call15 rfl (aes_Cipher_Encrypt_ok  hr883 h882) ?_
          rintro _ w885 ⟨rfl, h885⟩
          refine ⟨_, rfl, .inl ⟨PIn.keep (PIn.cons 6 rfl (PIn.cons 7 rfl PIn.nil)) h885, ?_⟩⟩
          refine Plan.storeP (ps := [(16, fun q => VU .u8 (x_881 q))]) h885 rfl rfl rfl (.cons 4 rfl .nil) ⟨fun _ _ => rfl, trivial⟩ FAesBack.sz27 (EffO.keep (PIn.cons 6 rfl (PIn.cons 7 rfl PIn.nil))) fun w886 h886 => ?_
          simp only [List.set_cons_zero, List.set_cons_succ] at h886
          refine Plan.storeA (f' := fun q => VU .u8 (x_884 q)) h886 5 rfl rfl rfl rfl (fun _ _ => rfl) FAesBack.sz27 rfl fun w887 h887 => ?_
          simp only [List.set_cons_zero, List.set_cons_succ] at h887
          refine Plan.nil ?_
          refine hK24 _ _ ?_; clear hK24
          refine W.seq_k fun K888 hK888 => ?_
          refine W.seq_k fun K906 hK906 => ?_
          refine W.regionD FAesBack.mixed [(0, true), (1, true), (3, true), (2, false), (4, true), (5, true), (6, true), (7, true), (8, true), (11, true), (9, false), (10, false), (12, true), (13, true), (14, true), (15, true), (16, true), (17, true), (18, true), (19, true), (20, true), (21, true), (22, true)] (by kernel_rfl) ?_
          have h907 := h887.drew
          refine Plan.move_ptr rfl rfl ?_
          refine Plan.loadA1 h907 4 rfl rfl rfl FAesBack.agg27 ?_
          refine Plan.loadA1 h907 7 rfl rfl rfl FAesBack.agg27 ?_
          obtain ⟨x_909, hr908, hR⟩ := hR
          refine Plan.call (vs := [.pointer (some ⟨b0_20, 0, none⟩), AG [(16, fun q => VU .u8 (x_881 q))]]) rfl FAesBack.call17 rfl (aes_Cipher_Decrypt_ok  hr908 h907) ?_
          rintro _ w910 ⟨rfl, h910⟩
          refine ⟨_, rfl, .inl ⟨PIn.keep (PIn.cons 7 rfl (PIn.cons 4 rfl PIn.nil)) h910, ?_⟩⟩
          by_cases hc911 : (eqB 16 x_909 a2) = true
          ·
            replace hR := ifT hR hc911
            refine Plan.neArrV (b := true) FAesBack.arrI27 rfl rfl rfl hc911 ?_
            refine Plan.move_bool rfl rfl ?_
            refine Plan.move_ptr rfl rfl ?_
            refine Plan.move_ptr rfl rfl ?_
            refine Plan.loadA1 h910 7 rfl rfl rfl FAesBack.agg27 ?_
            refine Plan.loadA1 h910 7 rfl rfl rfl FAesBack.agg27 ?_
            obtain ⟨x_913, hr912, hR⟩ := hR
            refine Plan.call (vs := [.pointer (some ⟨b0_20, 0, none⟩), AG [(16, fun q => VU .u8 (a2 q))]]) rfl FAesBack.call17 rfl (aes_Cipher_Decrypt_ok  hr912 h910) ?_
            rintro _ w914 ⟨rfl, h914⟩
            refine ⟨_, rfl, .inl ⟨PIn.keep (PIn.cons 7 rfl (PIn.cons 7 rfl (PIn.cons 7 rfl (PIn.cons 4 rfl PIn.nil)))) h914, ?_⟩⟩
            obtain ⟨x_916, hr915, hR⟩ := hR
            refine Plan.call (vs := [.pointer (some ⟨b0_20, 0, none⟩), AG [(16, fun q => VU .u8 (x_913 q))]]) rfl FAesBack.call15 rfl (aes_Cipher_Encrypt_ok  hr915 h914) ?_
            rintro _ w917 ⟨rfl, h917⟩
            refine ⟨_, rfl, .inl ⟨PIn.keep (PIn.cons 7 rfl (PIn.cons 7 rfl (PIn.cons 7 rfl (PIn.cons 4 rfl PIn.nil)))) h917, ?_⟩⟩
            by_cases hc918 : (eqB 16 x_916 a2) = true
            ·
              replace hR := ifT hR hc918
              refine Plan.neArrV (b := true) FAesBack.arrI27 rfl rfl rfl hc918 ?_
              refine Plan.pickFb rfl rfl rfl ?_
              refine Plan.move_bool rfl rfl ?_
              refine Plan.loadA1 h917 4 rfl rfl rfl FAesBack.agg27 ?_
              refine Plan.loadA1 h917 5 rfl rfl rfl FAesBack.agg27 ?_
              refine Plan.eqArrV (b := (eqB 16 x_881 x_884)) FAesBack.arrI27 rfl rfl rfl rfl ?_
              refine Plan.loadA1 h917 7 rfl rfl rfl FAesBack.agg27 ?_
              refine Plan.loadA1 h917 6 rfl rfl rfl FAesBack.agg27 ?_
              refine Plan.eqArrV (b := (eqB 16 a2 b3)) FAesBack.arrI27 rfl rfl rfl rfl ?_
              refine Plan.neBoolV (v := ((eqB 16 x_881 x_884) != (eqB 16 a2 b3))) FAesBack.bool4 rfl rfl rfl rfl ?_
              refine Plan.pickFb rfl rfl rfl ?_
              refine Plan.nil ?_
              refine hK906 _ _ ?_; clear hK906
              by_cases hc919 : ((eqB 16 x_881 x_884) != (eqB 16 a2 b3)) = true
              ·
                replace hR := ifT hR hc919
                refine W.condT (congrArg Value.bool hc919) ?_
                refine W.seq_k fun K920 hK920 => ?_
                refine W.regionT [(0, true)] (by kernel_rfl) ?_
                refine Plan.assign_bool rfl rfl ?_
                refine Plan.nil ?_
                refine hK920 _ _ ?_; clear hK920
                refine W.ret (thenR_ret (finR_ret ?_))
                have h921 := St.pickT (C := [_, _, _, _, _, _, _, _, _]) h917 [] (by decide)
                simp only [pick, List.filterMap_cons, List.filterMap_nil, List.getElem?_cons_zero, List.getElem?_cons_succ, List.cons_append, List.nil_append] at h921
                subst r
                refine RetOk.mk (.tmp_bool rfl .nil) ?_
                exact ⟨rfl, h921⟩
              ·
                replace hR := ifF hR hc919
                refine W.condF (congrArg Value.bool (Bool.eq_false_iff.2 hc919)) ?_
                refine W.skip ?_
                refine hK888 _ _ ?_; clear hK888
                refine W.seq_k fun K922 hK922 => ?_
                refine W.regionT [(0, true), (1, false), (2, false), (3, true), (4, true), (5, true), (6, true), (7, false), (8, false), (9, true), (10, true), (11, true), (12, true), (13, true), (14, false), (15, true), (16, true), (17, true), (18, true)] (by kernel_rfl) ?_
                refine Plan.move_int rfl rfl ?_
                obtain ⟨x_924, hr923, hR⟩ := hR
                refine Plan.call (vs := [VU .u8 x_4]) rfl FAesBack.call10 rfl (aes_Box_ok  hr923 h917) ?_
                rintro _ w925 ⟨rfl, h925⟩
                refine ⟨_, rfl, .inl ⟨PIn.keep PIn.nil h925, ?_⟩⟩
                obtain ⟨x_927, hr926, hR⟩ := hR
                refine Plan.call (vs := [VU .u8 x_924]) rfl FAesBack.call18 rfl (aes_Unbox_ok  hr926 h925) ?_
                rintro _ w928 ⟨rfl, h928⟩
                refine ⟨_, rfl, .inl ⟨PIn.keep PIn.nil h928, ?_⟩⟩
                refine Plan.move_int rfl rfl ?_
                by_cases hc929 : x_927 = x_4
                ·
                  replace hR := ifT hR hc929
                  refine Plan.cmpV (a := (x_927.toNat : Int)) (b := (x_4.toNat : Int)) (p := x_927 = x_4) (v := true) rfl rfl rfl rfl icmp_eqU (decide_eq_true hc929) ?_
                  refine Plan.move_bool rfl rfl ?_
                  refine Plan.move_int rfl rfl ?_
                  obtain ⟨x_931, hr930, hR⟩ := hR
                  refine Plan.call (vs := [VU .u8 x_4]) rfl FAesBack.call18 rfl (aes_Unbox_ok  hr930 h928) ?_
                  rintro _ w932 ⟨rfl, h932⟩
                  refine ⟨_, rfl, .inl ⟨PIn.keep PIn.nil h932, ?_⟩⟩
                  obtain ⟨x_934, hr933, hR⟩ := hR
                  refine Plan.call (vs := [VU .u8 x_931]) rfl FAesBack.call10 rfl (aes_Box_ok  hr933 h932) ?_
                  rintro _ w935 ⟨rfl, h935⟩
                  refine ⟨_, rfl, .inl ⟨PIn.keep PIn.nil h935, ?_⟩⟩
                  refine Plan.move_int rfl rfl ?_
                  by_cases hc936 : x_934 = x_4
                  ·
                    replace hR := ifT hR hc936
                    refine Plan.cmpV (a := (x_934.toNat : Int)) (b := (x_4.toNat : Int)) (p := x_934 = x_4) (v := true) rfl rfl rfl rfl icmp_eqU (decide_eq_true hc936) ?_
                    refine Plan.pickTb rfl rfl rfl ?_
                    refine Plan.move_bool rfl rfl ?_
                    refine Plan.move_int rfl rfl ?_
                    obtain ⟨x_938, hr937, hR⟩ := hR
                    refine Plan.call (vs := [VU .u8 x_4]) rfl FAesBack.call10 rfl (aes_Box_ok  hr937 h935) ?_
                    rintro _ w939 ⟨rfl, h939⟩
                    refine ⟨_, rfl, .inl ⟨PIn.keep PIn.nil h939, ?_⟩⟩
                    refine Plan.move_int rfl rfl ?_
                    refine Plan.cmpP (a := (x_938.toNat : Int)) (b := (x_4.toNat : Int)) (p := x_938 ≠ x_4) rfl rfl rfl rfl icmp_neU ?_
                    refine Plan.pickTb rfl rfl rfl ?_
                    refine Plan.assign_bool rfl rfl ?_
                    refine Plan.nil ?_
                    refine hK922 _ _ ?_; clear hK922
                    refine W.ret (finR_ret ?_)
                    have h940 := St.pickT (C := [_, _, _, _, _, _, _, _, _]) h939 [] (by decide)
                    simp only [pick, List.filterMap_cons, List.filterMap_nil, List.getElem?_cons_zero, List.getElem?_cons_succ, List.cons_append, List.nil_append] at h940
                    subst r
                    refine RetOk.mk (.tmp_bool rfl .nil) ?_
                    exact ⟨rfl, h940⟩
                  ·
                    replace hR := ifF hR hc936
                    refine Plan.cmpV (a := (x_934.toNat : Int)) (b := (x_4.toNat : Int)) (p := x_934 = x_4) (v := false) rfl rfl rfl rfl icmp_eqU (decide_eq_false hc936) ?_
                    refine Plan.pickTb rfl rfl rfl ?_
                    refine Plan.move_bool rfl rfl ?_
                    refine Plan.passed rfl ?_
                    refine Plan.passed rfl ?_
                    refine Plan.passed rfl ?_
                    refine Plan.passed rfl ?_
                    refine Plan.pickFb rfl rfl rfl ?_
                    refine Plan.assign_bool rfl rfl ?_
                    refine Plan.nil ?_
                    refine hK922 _ _ ?_; clear hK922
                    refine W.ret (finR_ret ?_)
                    have h941 := St.pickT (C := [_, _, _, _, _, _, _, _, _]) h935 [] (by decide)
                    simp only [pick, List.filterMap_cons, List.filterMap_nil, List.getElem?_cons_zero, List.getElem?_cons_succ, List.cons_append, List.nil_append] at h941
                    subst r
                    refine RetOk.mk (.tmp_bool rfl .nil) ?_
                    exact ⟨rfl, h941⟩
                ·
                  replace hR := ifF hR hc929
                  refine Plan.cmpV (a := (x_927.toNat : Int)) (b := (x_4.toNat : Int)) (p := x_927 = x_4) (v := false) rfl rfl rfl rfl icmp_eqU (decide_eq_false hc929) ?_
                  refine Plan.move_bool rfl rfl ?_
                  refine Plan.passed rfl ?_
                  refine Plan.passed rfl ?_
                  refine Plan.passed rfl ?_
                  refine Plan.passed rfl ?_
                  refine Plan.passed rfl ?_
                  refine Plan.pickFb rfl rfl rfl ?_
                  refine Plan.move_bool rfl rfl ?_
                  refine Plan.passed rfl ?_
                  refine Plan.passed rfl ?_
                  refine Plan.passed rfl ?_
                  refine Plan.passed rfl ?_
                  refine Plan.pickFb rfl rfl rfl ?_
                  refine Plan.assign_bool rfl rfl ?_
                  refine Plan.nil ?_
                  refine hK922 _ _ ?_; clear hK922
                  refine W.ret (finR_ret ?_)
                  have h942 := St.pickT (C := [_, _, _, _, _, _, _, _, _]) h928 [] (by decide)
                  simp only [pick, List.filterMap_cons, List.filterMap_nil, List.getElem?_cons_zero, List.getElem?_cons_succ, List.cons_append, List.nil_append] at h942
                  subst r
                  refine RetOk.mk (.tmp_bool rfl .nil) ?_
                  exact ⟨rfl, h942⟩
            ·
              replace hR := ifF hR hc918
              refine Plan.neArrV (b := false) FAesBack.arrI27 rfl rfl rfl (Bool.eq_false_iff.2 hc918) ?_
              refine Plan.pickFb rfl rfl rfl ?_
              refine Plan.move_bool rfl rfl ?_
              refine Plan.passed rfl ?_
              refine Plan.passed rfl ?_
              refine Plan.passed rfl ?_
              refine Plan.passed rfl ?_
              refine Plan.passed rfl ?_
              refine Plan.passed rfl ?_
              refine Plan.passed rfl ?_
              refine Plan.pickTb rfl rfl rfl ?_
              refine Plan.nil ?_
              refine hK906 _ _ ?_; clear hK906
              refine W.condT rfl ?_
              refine W.seq_k fun K943 hK943 => ?_
              refine W.regionT [(0, true)] (by kernel_rfl) ?_
              refine Plan.assign_bool rfl rfl ?_
              refine Plan.nil ?_
              refine hK943 _ _ ?_; clear hK943
              refine W.ret (thenR_ret (finR_ret ?_))
              have h944 := St.pickT (C := [_, _, _, _, _, _, _, _, _]) h917 [] (by decide)
              simp only [pick, List.filterMap_cons, List.filterMap_nil, List.getElem?_cons_zero, List.getElem?_cons_succ, List.cons_append, List.nil_append] at h944
              subst r
              refine RetOk.mk (.tmp_bool rfl .nil) ?_
              exact ⟨rfl, h944⟩
          ·
            replace hR := ifF hR hc911
            refine Plan.neArrV (b := false) FAesBack.arrI27 rfl rfl rfl (Bool.eq_false_iff.2 hc911) ?_
            refine Plan.move_bool rfl rfl ?_
            refine Plan.passed rfl ?_
            refine Plan.passed rfl ?_
            refine Plan.passed rfl ?_
            refine Plan.passed rfl ?_
            refine Plan.passed rfl ?_
            refine Plan.passed rfl ?_
            refine Plan.passed rfl ?_
            refine Plan.pickTb rfl rfl rfl ?_
            refine Plan.move_bool rfl rfl ?_
            refine Plan.passed rfl ?_
            refine Plan.passed rfl ?_
            refine Plan.passed rfl ?_
            refine Plan.passed rfl ?_
            refine Plan.passed rfl ?_
            refine Plan.passed rfl ?_
            refine Plan.passed rfl ?_
            refine Plan.pickTb rfl rfl rfl ?_
            refine Plan.nil ?_
            refine hK906 _ _ ?_; clear hK906
            refine W.condT rfl ?_
            refine W.seq_k fun K945 hK945 => ?_
            refine W.regionT [(0, true)] (by kernel_rfl) ?_
            refine Plan.assign_bool rfl rfl ?_
            refine Plan.nil ?_
            refine hK945 _ _ ?_; clear hK945
            refine W.ret (thenR_ret (finR_ret ?_))
            have h946 := St.pickT (C := [_, _, _, _, _, _, _, _, _]) h910 [] (by decide)
            simp only [pick, List.filterMap_cons, List.filterMap_nil, List.getElem?_cons_zero, List.getElem?_cons_succ, List.cons_append, List.nil_append] at h946
            subst r
            refine RetOk.mk (.tmp_bool rfl .nil) ?_
            exact ⟨rfl, h946⟩

end Go.Proofs.Ythjkmhdgenmnoaa
