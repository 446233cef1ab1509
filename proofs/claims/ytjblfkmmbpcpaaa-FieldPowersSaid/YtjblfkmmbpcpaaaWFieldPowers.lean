/-
  WALKS of the package's functions, printed by this session's own program (auto.py).
-/
import Derived.Test.YtjblfkmmbpcpaaaProg
import Derived.Test.YtjblfkmmbpcpaaaLx6
import Derived.Test.YtjblfkmmbpcpaaaRFieldPowers
import Derived.Test.YtjblfkmmbpcpaaaWField
namespace Go.Proofs.Ytjblfkmmbpcpaaa
set_option linter.unusedSimpArgs false
set_option linter.unusedVariables false
set_option linter.unusedSectionVars false
open Go Go.LW
theorem FFieldPowers.agg23 : aggT Try.prog 23 32 = true := by kernel_rfl
theorem FFieldPowers.z28 : zeroIs Try.prog 28 [(5, fun _ => VU .u64 0#64)] := zeroIs_agg (by kernel_rfl)
theorem FFieldPowers.mixed : Try.prog.follows .mixedOrders = true := by kernel_rfl
theorem FFieldPowers.arr23 : arrB Try.prog 23 32 1 = true := by kernel_rfl
theorem FFieldPowers.sc5 : scalarT Try.prog 5 = true := by kernel_rfl
theorem FFieldPowers.some5 : (Try.prog.underlying 5).isSome = true := by kernel_rfl
theorem FFieldPowers.sz28 : szT Try.prog 28 5 = true := by kernel_rfl
theorem FFieldPowers.agg28 : aggT Try.prog 28 5 = true := by kernel_rfl
theorem FFieldPowers.call6 : callB Try.prog 6 = true := by kernel_rfl
theorem FFieldPowers.z23 : zeroIs Try.prog 23 [(32, fun _ => VU .u8 0#8)] := zeroIs_agg (by kernel_rfl)
theorem FFieldPowers.sz5 : szT Try.prog 5 1 = true := by kernel_rfl
theorem FFieldPowers.sz23 : szT Try.prog 23 32 = true := by kernel_rfl
theorem FFieldPowers.call9 : callB Try.prog 9 = true := by kernel_rfl
theorem FFieldPowers.call11 : callB Try.prog 11 = true := by kernel_rfl
theorem FFieldPowers.u3 : Try.prog.underlying 3 = some (.int .i64) := by kernel_rfl
theorem FFieldPowers.call13 : callB Try.prog 13 = true := by kernel_rfl
theorem FFieldPowers.call14 : callB Try.prog 14 = true := by kernel_rfl

set_option maxRecDepth 8000 in
set_option maxHeartbeats 1000000 in
theorem lethelaw06_FieldPowers_ok {B : Nat} {w0 w : World} {L : List Rg} {x_1 : Nat → BitVec 8} {y2 : Nat → BitVec 8} {n_3 : BitVec 8} {k4 : Nat → BitVec 8} {r : Bool} (hR : lethelaw06_FieldPowers x_1 y2 n_3 k4 r) (HST : St B w0 (L) w) :
    Calls Try.prog 4 #[AG [(32, fun q => VU .u8 (x_1 q))], AG [(32, fun q => VU .u8 (y2 q))], VU .u8 n_3, AG [(32, fun q => VU .u8 (k4 q))]] w fun e w' => e = .returned (.bool r) ∧ St B w0 (L) w' := by
  refine W.enter 73 Try.func4 rfl rfl rfl ?_
  unfold lethelaw06_FieldPowers at hR
  refine W.seq_k fun K5 hK5 => ?_
  refine W.regionT [(0, false), (1, false), (2, false), (3, true)] (by kernel_rfl) ?_
  refine Plan.boxA HST rfl rfl PIn.nil fun b6 w6 hb6 h6 => ?_
  simp only [rngs, Nat.zero_add, Nat.reduceAdd, List.cons_append, List.nil_append] at h6
  refine Plan.boxA h6 rfl rfl PIn.nil fun b7 w7 hb7 h7 => ?_
  simp only [rngs, Nat.zero_add, Nat.reduceAdd, List.cons_append, List.nil_append] at h7
  refine Plan.boxA h7 rfl rfl PIn.nil fun b8 w8 hb8 h8 => ?_
  simp only [rngs, Nat.zero_add, Nat.reduceAdd, List.cons_append, List.nil_append] at h8
  refine Plan.assign_bool rfl rfl ?_
  refine Plan.nil ?_
  refine hK5 _ _ ?_; clear hK5
  refine W.seq_k fun K9 hK9 => ?_
  obtain ⟨m142, m144, hX145, hR0145⟩ := hR
  refine W.cutN (fun e w => ∃ y_m142 : Nat → BitVec 64, ∃ y_m144 : Nat → BitVec 64, (m142 = y_m142 ∧ m144 = y_m144) ∧ ∃ b141 : Nat, ∃ b143 : Nat, EnvHas e [(2, VU .u8 n_3), (7, .pointer (some ⟨b8, 0, none⟩)), (9, .pointer (some ⟨b141, 0, none⟩)), (10, .pointer (some ⟨b143, 0, none⟩))] ∧ St B w0 (⟨some b141, 0, 5, fun q => VU .u64 (y_m142 q), true⟩ :: ⟨some b143, 0, 5, fun q => VU .u64 (y_m144 q), true⟩ :: ⟨some b8, 0, 32, fun q => VU .u8 (k4 q), true⟩ :: L) w) ?_ ?_
  ·
    replace hR := hX145
    refine W.regionF FFieldPowers.mixed (.fork [(0, true), (2, true)] (.fork [(1, false)] (.fork [(3, false)] (.line [(4, false), (5, false), (6, false), (7, false)]) (.line [(5, false), (4, false), (6, false), (7, false)])) (.fork [] (.fork [(4, false)] (.line [(3, false), (5, false), (6, false), (7, false)]) (.line [(5, false), (3, false), (6, false), (7, false)])) (.fork [(5, false)] (.line [(3, false), (4, false), (6, false), (7, false)]) (.line [(4, false), (3, false), (6, false), (7, false)])))) (.fork [] (.fork [(4, false)] (.fork [(1, false)] (.line [(3, false), (5, false), (6, false), (7, false)]) (.line [(5, false), (3, false), (6, false), (7, false)])) (.line [(5, false), (1, false), (3, false), (6, false), (7, false)])) (.fork [(5, false)] (.fork [(1, false)] (.line [(3, false), (4, false), (6, false), (7, false)]) (.line [(4, false), (3, false), (6, false), (7, false)])) (.line [(4, false), (1, false), (3, false), (6, false), (7, false)])))) (by kernel_rfl) (PlanT.toFork ?_)
    have h146 := h8.drew
    refine Plan.loadA1 h146 2 rfl rfl rfl FFieldPowers.agg23 ?_
    refine Plan.loadA1 h146 1 rfl rfl rfl FFieldPowers.agg23 ?_
    obtain ⟨x_148, hr147, hR⟩ := hR
    obtain ⟨x_151, hr150, hR⟩ := hR
    obtain ⟨x_163, hr162, hR⟩ := hR
    obtain ⟨x_170, hr169, hR⟩ := hR
    obtain ⟨x_176, hr175, hR⟩ := hR
    obtain ⟨x_183, hr182, hR⟩ := hR
    refine Plan.forked ?_ ?_
    ·
      refine PlanT.toFork ?_
      refine Plan.call (vs := [AG [(32, fun q => VU .u8 (x_1 q))]]) rfl FFieldPowers.call6 rfl (field_Read_ok  hr147 h146) ?_
      rintro _ w189 ⟨rfl, h189⟩
      refine ⟨_, rfl, .inl ⟨PIn.keep (PIn.cons 1 rfl (PIn.cons 2 rfl PIn.nil)) h189, ?_⟩⟩
      refine Plan.forked ?_ ?_
      ·
        refine PlanT.toFork ?_
        refine Plan.call (vs := [AG [(32, fun q => VU .u8 (y2 q))]]) rfl FFieldPowers.call6 rfl (field_Read_ok  hr182 h189) ?_
        rintro _ w192 ⟨rfl, h192⟩
        refine ⟨_, rfl, .inl ⟨PIn.keep (PIn.cons 1 rfl (PIn.cons 2 rfl PIn.nil)) h192, ?_⟩⟩
        refine Plan.forked ?_ ?_
        ·
          refine PlanT.toLine ?_
          refine Plan.alloc h192 rfl FFieldPowers.z28 (PIn.cons 1 rfl (PIn.cons 2 rfl PIn.nil)) fun b193 w193 hb193 h193 => ?_
          simp only [rngs, Nat.zero_add, Nat.reduceAdd, List.cons_append, List.nil_append] at h193
          refine Plan.alloc h193 rfl FFieldPowers.z28 (PIn.cons 2 rfl (PIn.cons 3 rfl PIn.nil)) fun b194 w194 hb194 h194 => ?_
          simp only [rngs, Nat.zero_add, Nat.reduceAdd, List.cons_append, List.nil_append] at h194
          refine Plan.storeP (ps := [(5, fun q => VU .u64 (x_148 q))]) h194 rfl rfl rfl (.cons 1 rfl .nil) ⟨fun _ _ => rfl, trivial⟩ FFieldPowers.sz28 (EffO.keep (PIn.cons 3 rfl (PIn.cons 4 rfl PIn.nil))) fun w195 h195 => ?_
          simp only [List.cons_append, List.nil_append, List.set_cons_zero, List.set_cons_succ] at h195
          refine Plan.storeA (f' := fun q => VU .u64 (x_183 q)) h195 0 rfl rfl rfl rfl (fun _ _ => rfl) FFieldPowers.sz28 rfl fun w196 h196 => ?_
          simp only [List.cons_append, List.nil_append, List.set_cons_zero, List.set_cons_succ] at h196
          refine Plan.nil ?_
          have h197 := St.pickT (C := [_, _, _, _, _]) h196 [1, 0, 2] (by decide)
          simp only [pick, List.filterMap_cons, List.filterMap_nil, List.getElem?_cons_zero, List.getElem?_cons_succ, List.cons_append, List.nil_append] at h197
          exact ⟨x_148, x_183, hR, b193, b194, (EnvHas.cons rfl (EnvHas.cons rfl (EnvHas.cons rfl (EnvHas.cons rfl EnvHas.nil)))), h197⟩
        ·
          refine PlanT.toLine ?_
          refine Plan.alloc h192 rfl FFieldPowers.z28 (PIn.cons 1 rfl (PIn.cons 2 rfl PIn.nil)) fun b198 w198 hb198 h198 => ?_
          simp only [rngs, Nat.zero_add, Nat.reduceAdd, List.cons_append, List.nil_append] at h198
          refine Plan.alloc h198 rfl FFieldPowers.z28 (PIn.cons 2 rfl (PIn.cons 3 rfl PIn.nil)) fun b199 w199 hb199 h199 => ?_
          simp only [rngs, Nat.zero_add, Nat.reduceAdd, List.cons_append, List.nil_append] at h199
          refine Plan.storeP (ps := [(5, fun q => VU .u64 (x_148 q))]) h199 rfl rfl rfl (.cons 0 rfl .nil) ⟨fun _ _ => rfl, trivial⟩ FFieldPowers.sz28 (EffO.keep (PIn.cons 3 rfl (PIn.cons 4 rfl PIn.nil))) fun w200 h200 => ?_
          simp only [List.cons_append, List.nil_append, List.set_cons_zero, List.set_cons_succ] at h200
          refine Plan.storeA (f' := fun q => VU .u64 (x_183 q)) h200 1 rfl rfl rfl rfl (fun _ _ => rfl) FFieldPowers.sz28 rfl fun w201 h201 => ?_
          simp only [List.cons_append, List.nil_append, List.set_cons_zero, List.set_cons_succ] at h201
          refine Plan.nil ?_
          have h202 := St.pickT (C := [_, _, _, _, _]) h201 [0, 1, 2] (by decide)
          simp only [pick, List.filterMap_cons, List.filterMap_nil, List.getElem?_cons_zero, List.getElem?_cons_succ, List.cons_append, List.nil_append] at h202
          exact ⟨x_148, x_183, hR, b199, b198, (EnvHas.cons rfl (EnvHas.cons rfl (EnvHas.cons rfl (EnvHas.cons rfl EnvHas.nil)))), h202⟩
      ·
        refine PlanT.toFork ?_
        refine Plan.forked ?_ ?_
        ·
          refine PlanT.toFork ?_
          refine Plan.alloc h189 rfl FFieldPowers.z28 (PIn.cons 1 rfl (PIn.cons 2 rfl PIn.nil)) fun b203 w203 hb203 h203 => ?_
          simp only [rngs, Nat.zero_add, Nat.reduceAdd, List.cons_append, List.nil_append] at h203
          refine Plan.forked ?_ ?_
          ·
            refine PlanT.toLine ?_
            refine Plan.call (vs := [AG [(32, fun q => VU .u8 (y2 q))]]) rfl FFieldPowers.call6 rfl (field_Read_ok  hr182 h203) ?_
            rintro _ w206 ⟨rfl, h206⟩
            refine ⟨_, rfl, .inl ⟨PIn.keep (PIn.cons 2 rfl (PIn.cons 3 rfl PIn.nil)) h206, ?_⟩⟩
            refine Plan.alloc h206 rfl FFieldPowers.z28 (PIn.cons 2 rfl (PIn.cons 3 rfl PIn.nil)) fun b207 w207 hb207 h207 => ?_
            simp only [rngs, Nat.zero_add, Nat.reduceAdd, List.cons_append, List.nil_append] at h207
            refine Plan.storeP (ps := [(5, fun q => VU .u64 (x_148 q))]) h207 rfl rfl rfl (.cons 1 rfl .nil) ⟨fun _ _ => rfl, trivial⟩ FFieldPowers.sz28 (EffO.keep (PIn.cons 3 rfl (PIn.cons 4 rfl PIn.nil))) fun w208 h208 => ?_
            simp only [List.cons_append, List.nil_append, List.set_cons_zero, List.set_cons_succ] at h208
            refine Plan.storeA (f' := fun q => VU .u64 (x_183 q)) h208 0 rfl rfl rfl rfl (fun _ _ => rfl) FFieldPowers.sz28 rfl fun w209 h209 => ?_
            simp only [List.cons_append, List.nil_append, List.set_cons_zero, List.set_cons_succ] at h209
            refine Plan.nil ?_
            have h210 := St.pickT (C := [_, _, _, _, _]) h209 [1, 0, 2] (by decide)
            simp only [pick, List.filterMap_cons, List.filterMap_nil, List.getElem?_cons_zero, List.getElem?_cons_succ, List.cons_append, List.nil_append] at h210
            exact ⟨x_148, x_183, hR, b203, b207, (EnvHas.cons rfl (EnvHas.cons rfl (EnvHas.cons rfl (EnvHas.cons rfl EnvHas.nil)))), h210⟩
          ·
            refine PlanT.toLine ?_
            refine Plan.alloc h203 rfl FFieldPowers.z28 (PIn.cons 2 rfl (PIn.cons 3 rfl PIn.nil)) fun b211 w211 hb211 h211 => ?_
            simp only [rngs, Nat.zero_add, Nat.reduceAdd, List.cons_append, List.nil_append] at h211
            refine Plan.call (vs := [AG [(32, fun q => VU .u8 (y2 q))]]) rfl FFieldPowers.call6 rfl (field_Read_ok  hr182 h211) ?_
            rintro _ w214 ⟨rfl, h214⟩
            refine ⟨_, rfl, .inl ⟨PIn.keep (PIn.cons 3 rfl (PIn.cons 4 rfl PIn.nil)) h214, ?_⟩⟩
            refine Plan.storeP (ps := [(5, fun q => VU .u64 (x_148 q))]) h214 rfl rfl rfl (.cons 1 rfl .nil) ⟨fun _ _ => rfl, trivial⟩ FFieldPowers.sz28 (EffO.keep (PIn.cons 3 rfl (PIn.cons 4 rfl PIn.nil))) fun w215 h215 => ?_
            simp only [List.cons_append, List.nil_append, List.set_cons_zero, List.set_cons_succ] at h215
            refine Plan.storeA (f' := fun q => VU .u64 (x_183 q)) h215 0 rfl rfl rfl rfl (fun _ _ => rfl) FFieldPowers.sz28 rfl fun w216 h216 => ?_
            simp only [List.cons_append, List.nil_append, List.set_cons_zero, List.set_cons_succ] at h216
            refine Plan.nil ?_
            have h217 := St.pickT (C := [_, _, _, _, _]) h216 [1, 0, 2] (by decide)
            simp only [pick, List.filterMap_cons, List.filterMap_nil, List.getElem?_cons_zero, List.getElem?_cons_succ, List.cons_append, List.nil_append] at h217
            exact ⟨x_148, x_183, hR, b203, b211, (EnvHas.cons rfl (EnvHas.cons rfl (EnvHas.cons rfl (EnvHas.cons rfl EnvHas.nil)))), h217⟩
        ·
          refine PlanT.toFork ?_
          refine Plan.alloc h189 rfl FFieldPowers.z28 (PIn.cons 1 rfl (PIn.cons 2 rfl PIn.nil)) fun b218 w218 hb218 h218 => ?_
          simp only [rngs, Nat.zero_add, Nat.reduceAdd, List.cons_append, List.nil_append] at h218
          refine Plan.forked ?_ ?_
          ·
            refine PlanT.toLine ?_
            refine Plan.call (vs := [AG [(32, fun q => VU .u8 (y2 q))]]) rfl FFieldPowers.call6 rfl (field_Read_ok  hr182 h218) ?_
            rintro _ w221 ⟨rfl, h221⟩
            refine ⟨_, rfl, .inl ⟨PIn.keep (PIn.cons 2 rfl (PIn.cons 3 rfl PIn.nil)) h221, ?_⟩⟩
            refine Plan.alloc h221 rfl FFieldPowers.z28 (PIn.cons 2 rfl (PIn.cons 3 rfl PIn.nil)) fun b222 w222 hb222 h222 => ?_
            simp only [rngs, Nat.zero_add, Nat.reduceAdd, List.cons_append, List.nil_append] at h222
            refine Plan.storeP (ps := [(5, fun q => VU .u64 (x_148 q))]) h222 rfl rfl rfl (.cons 0 rfl .nil) ⟨fun _ _ => rfl, trivial⟩ FFieldPowers.sz28 (EffO.keep (PIn.cons 3 rfl (PIn.cons 4 rfl PIn.nil))) fun w223 h223 => ?_
            simp only [List.cons_append, List.nil_append, List.set_cons_zero, List.set_cons_succ] at h223
            refine Plan.storeA (f' := fun q => VU .u64 (x_183 q)) h223 1 rfl rfl rfl rfl (fun _ _ => rfl) FFieldPowers.sz28 rfl fun w224 h224 => ?_
            simp only [List.cons_append, List.nil_append, List.set_cons_zero, List.set_cons_succ] at h224
            refine Plan.nil ?_
            have h225 := St.pickT (C := [_, _, _, _, _]) h224 [0, 1, 2] (by decide)
            simp only [pick, List.filterMap_cons, List.filterMap_nil, List.getElem?_cons_zero, List.getElem?_cons_succ, List.cons_append, List.nil_append] at h225
            exact ⟨x_148, x_183, hR, b222, b218, (EnvHas.cons rfl (EnvHas.cons rfl (EnvHas.cons rfl (EnvHas.cons rfl EnvHas.nil)))), h225⟩
          ·
            refine PlanT.toLine ?_
            refine Plan.alloc h218 rfl FFieldPowers.z28 (PIn.cons 2 rfl (PIn.cons 3 rfl PIn.nil)) fun b226 w226 hb226 h226 => ?_
            simp only [rngs, Nat.zero_add, Nat.reduceAdd, List.cons_append, List.nil_append] at h226
            refine Plan.call (vs := [AG [(32, fun q => VU .u8 (y2 q))]]) rfl FFieldPowers.call6 rfl (field_Read_ok  hr182 h226) ?_
            rintro _ w229 ⟨rfl, h229⟩
            refine ⟨_, rfl, .inl ⟨PIn.keep (PIn.cons 3 rfl (PIn.cons 4 rfl PIn.nil)) h229, ?_⟩⟩
            refine Plan.storeP (ps := [(5, fun q => VU .u64 (x_148 q))]) h229 rfl rfl rfl (.cons 0 rfl .nil) ⟨fun _ _ => rfl, trivial⟩ FFieldPowers.sz28 (EffO.keep (PIn.cons 3 rfl (PIn.cons 4 rfl PIn.nil))) fun w230 h230 => ?_
            simp only [List.cons_append, List.nil_append, List.set_cons_zero, List.set_cons_succ] at h230
            refine Plan.storeA (f' := fun q => VU .u64 (x_183 q)) h230 1 rfl rfl rfl rfl (fun _ _ => rfl) FFieldPowers.sz28 rfl fun w231 h231 => ?_
            simp only [List.cons_append, List.nil_append, List.set_cons_zero, List.set_cons_succ] at h231
            refine Plan.nil ?_
            have h232 := St.pickT (C := [_, _, _, _, _]) h231 [0, 1, 2] (by decide)
            simp only [pick, List.filterMap_cons, List.filterMap_nil, List.getElem?_cons_zero, List.getElem?_cons_succ, List.cons_append, List.nil_append] at h232
            exact ⟨x_148, x_183, hR, b226, b218, (EnvHas.cons rfl (EnvHas.cons rfl (EnvHas.cons rfl (EnvHas.cons rfl EnvHas.nil)))), h232⟩
    ·
      refine PlanT.toFork ?_
      refine Plan.forked ?_ ?_
      ·
        refine PlanT.toFork ?_
        refine Plan.alloc h146 rfl FFieldPowers.z28 (PIn.cons 1 rfl (PIn.cons 2 rfl PIn.nil)) fun b233 w233 hb233 h233 => ?_
        simp only [rngs, Nat.zero_add, Nat.reduceAdd, List.cons_append, List.nil_append] at h233
        refine Plan.forked ?_ ?_
        ·
          refine PlanT.toFork ?_
          refine Plan.call (vs := [AG [(32, fun q => VU .u8 (x_1 q))]]) rfl FFieldPowers.call6 rfl (field_Read_ok  hr147 h233) ?_
          rintro _ w236 ⟨rfl, h236⟩
          refine ⟨_, rfl, .inl ⟨PIn.keep (PIn.cons 2 rfl (PIn.cons 3 rfl PIn.nil)) h236, ?_⟩⟩
          refine Plan.forked ?_ ?_
          ·
            refine PlanT.toLine ?_
            refine Plan.call (vs := [AG [(32, fun q => VU .u8 (y2 q))]]) rfl FFieldPowers.call6 rfl (field_Read_ok  hr182 h236) ?_
            rintro _ w239 ⟨rfl, h239⟩
            refine ⟨_, rfl, .inl ⟨PIn.keep (PIn.cons 2 rfl (PIn.cons 3 rfl PIn.nil)) h239, ?_⟩⟩
            refine Plan.alloc h239 rfl FFieldPowers.z28 (PIn.cons 2 rfl (PIn.cons 3 rfl PIn.nil)) fun b240 w240 hb240 h240 => ?_
            simp only [rngs, Nat.zero_add, Nat.reduceAdd, List.cons_append, List.nil_append] at h240
            refine Plan.storeP (ps := [(5, fun q => VU .u64 (x_148 q))]) h240 rfl rfl rfl (.cons 1 rfl .nil) ⟨fun _ _ => rfl, trivial⟩ FFieldPowers.sz28 (EffO.keep (PIn.cons 3 rfl (PIn.cons 4 rfl PIn.nil))) fun w241 h241 => ?_
            simp only [List.cons_append, List.nil_append, List.set_cons_zero, List.set_cons_succ] at h241
            refine Plan.storeA (f' := fun q => VU .u64 (x_183 q)) h241 0 rfl rfl rfl rfl (fun _ _ => rfl) FFieldPowers.sz28 rfl fun w242 h242 => ?_
            simp only [List.cons_append, List.nil_append, List.set_cons_zero, List.set_cons_succ] at h242
            refine Plan.nil ?_
            have h243 := St.pickT (C := [_, _, _, _, _]) h242 [1, 0, 2] (by decide)
            simp only [pick, List.filterMap_cons, List.filterMap_nil, List.getElem?_cons_zero, List.getElem?_cons_succ, List.cons_append, List.nil_append] at h243
            exact ⟨x_148, x_183, hR, b233, b240, (EnvHas.cons rfl (EnvHas.cons rfl (EnvHas.cons rfl (EnvHas.cons rfl EnvHas.nil)))), h243⟩
          ·
            refine PlanT.toLine ?_
            refine Plan.alloc h236 rfl FFieldPowers.z28 (PIn.cons 2 rfl (PIn.cons 3 rfl PIn.nil)) fun b244 w244 hb244 h244 => ?_
            simp only [rngs, Nat.zero_add, Nat.reduceAdd, List.cons_append, List.nil_append] at h244
            refine Plan.call (vs := [AG [(32, fun q => VU .u8 (y2 q))]]) rfl FFieldPowers.call6 rfl (field_Read_ok  hr182 h244) ?_
            rintro _ w247 ⟨rfl, h247⟩
            refine ⟨_, rfl, .inl ⟨PIn.keep (PIn.cons 3 rfl (PIn.cons 4 rfl PIn.nil)) h247, ?_⟩⟩
            refine Plan.storeP (ps := [(5, fun q => VU .u64 (x_148 q))]) h247 rfl rfl rfl (.cons 1 rfl .nil) ⟨fun _ _ => rfl, trivial⟩ FFieldPowers.sz28 (EffO.keep (PIn.cons 3 rfl (PIn.cons 4 rfl PIn.nil))) fun w248 h248 => ?_
            simp only [List.cons_append, List.nil_append, List.set_cons_zero, List.set_cons_succ] at h248
            refine Plan.storeA (f' := fun q => VU .u64 (x_183 q)) h248 0 rfl rfl rfl rfl (fun _ _ => rfl) FFieldPowers.sz28 rfl fun w249 h249 => ?_
            simp only [List.cons_append, List.nil_append, List.set_cons_zero, List.set_cons_succ] at h249
            refine Plan.nil ?_
            have h250 := St.pickT (C := [_, _, _, _, _]) h249 [1, 0, 2] (by decide)
            simp only [pick, List.filterMap_cons, List.filterMap_nil, List.getElem?_cons_zero, List.getElem?_cons_succ, List.cons_append, List.nil_append] at h250
            exact ⟨x_148, x_183, hR, b233, b244, (EnvHas.cons rfl (EnvHas.cons rfl (EnvHas.cons rfl (EnvHas.cons rfl EnvHas.nil)))), h250⟩
        ·
          refine PlanT.toLine ?_
          refine Plan.alloc h233 rfl FFieldPowers.z28 (PIn.cons 2 rfl (PIn.cons 3 rfl PIn.nil)) fun b251 w251 hb251 h251 => ?_
          simp only [rngs, Nat.zero_add, Nat.reduceAdd, List.cons_append, List.nil_append] at h251
          refine Plan.call (vs := [AG [(32, fun q => VU .u8 (x_1 q))]]) rfl FFieldPowers.call6 rfl (field_Read_ok  hr147 h251) ?_
          rintro _ w254 ⟨rfl, h254⟩
          refine ⟨_, rfl, .inl ⟨PIn.keep (PIn.cons 3 rfl (PIn.cons 4 rfl PIn.nil)) h254, ?_⟩⟩
          refine Plan.call (vs := [AG [(32, fun q => VU .u8 (y2 q))]]) rfl FFieldPowers.call6 rfl (field_Read_ok  hr182 h254) ?_
          rintro _ w257 ⟨rfl, h257⟩
          refine ⟨_, rfl, .inl ⟨PIn.keep (PIn.cons 3 rfl (PIn.cons 4 rfl PIn.nil)) h257, ?_⟩⟩
          refine Plan.storeP (ps := [(5, fun q => VU .u64 (x_148 q))]) h257 rfl rfl rfl (.cons 1 rfl .nil) ⟨fun _ _ => rfl, trivial⟩ FFieldPowers.sz28 (EffO.keep (PIn.cons 3 rfl (PIn.cons 4 rfl PIn.nil))) fun w258 h258 => ?_
          simp only [List.cons_append, List.nil_append, List.set_cons_zero, List.set_cons_succ] at h258
          refine Plan.storeA (f' := fun q => VU .u64 (x_183 q)) h258 0 rfl rfl rfl rfl (fun _ _ => rfl) FFieldPowers.sz28 rfl fun w259 h259 => ?_
          simp only [List.cons_append, List.nil_append, List.set_cons_zero, List.set_cons_succ] at h259
          refine Plan.nil ?_
          have h260 := St.pickT (C := [_, _, _, _, _]) h259 [1, 0, 2] (by decide)
          simp only [pick, List.filterMap_cons, List.filterMap_nil, List.getElem?_cons_zero, List.getElem?_cons_succ, List.cons_append, List.nil_append] at h260
          exact ⟨x_148, x_183, hR, b233, b251, (EnvHas.cons rfl (EnvHas.cons rfl (EnvHas.cons rfl (EnvHas.cons rfl EnvHas.nil)))), h260⟩
      ·
        refine PlanT.toFork ?_
        refine Plan.alloc h146 rfl FFieldPowers.z28 (PIn.cons 1 rfl (PIn.cons 2 rfl PIn.nil)) fun b261 w261 hb261 h261 => ?_
        simp only [rngs, Nat.zero_add, Nat.reduceAdd, List.cons_append, List.nil_append] at h261
        refine Plan.forked ?_ ?_
        ·
          refine PlanT.toFork ?_
          refine Plan.call (vs := [AG [(32, fun q => VU .u8 (x_1 q))]]) rfl FFieldPowers.call6 rfl (field_Read_ok  hr147 h261) ?_
          rintro _ w264 ⟨rfl, h264⟩
          refine ⟨_, rfl, .inl ⟨PIn.keep (PIn.cons 2 rfl (PIn.cons 3 rfl PIn.nil)) h264, ?_⟩⟩
          refine Plan.forked ?_ ?_
          ·
            refine PlanT.toLine ?_
            refine Plan.call (vs := [AG [(32, fun q => VU .u8 (y2 q))]]) rfl FFieldPowers.call6 rfl (field_Read_ok  hr182 h264) ?_
            rintro _ w267 ⟨rfl, h267⟩
            refine ⟨_, rfl, .inl ⟨PIn.keep (PIn.cons 2 rfl (PIn.cons 3 rfl PIn.nil)) h267, ?_⟩⟩
            refine Plan.alloc h267 rfl FFieldPowers.z28 (PIn.cons 2 rfl (PIn.cons 3 rfl PIn.nil)) fun b268 w268 hb268 h268 => ?_
            simp only [rngs, Nat.zero_add, Nat.reduceAdd, List.cons_append, List.nil_append] at h268
            refine Plan.storeP (ps := [(5, fun q => VU .u64 (x_148 q))]) h268 rfl rfl rfl (.cons 0 rfl .nil) ⟨fun _ _ => rfl, trivial⟩ FFieldPowers.sz28 (EffO.keep (PIn.cons 3 rfl (PIn.cons 4 rfl PIn.nil))) fun w269 h269 => ?_
            simp only [List.cons_append, List.nil_append, List.set_cons_zero, List.set_cons_succ] at h269
            refine Plan.storeA (f' := fun q => VU .u64 (x_183 q)) h269 1 rfl rfl rfl rfl (fun _ _ => rfl) FFieldPowers.sz28 rfl fun w270 h270 => ?_
            simp only [List.cons_append, List.nil_append, List.set_cons_zero, List.set_cons_succ] at h270
            refine Plan.nil ?_
            have h271 := St.pickT (C := [_, _, _, _, _]) h270 [0, 1, 2] (by decide)
            simp only [pick, List.filterMap_cons, List.filterMap_nil, List.getElem?_cons_zero, List.getElem?_cons_succ, List.cons_append, List.nil_append] at h271
            exact ⟨x_148, x_183, hR, b268, b261, (EnvHas.cons rfl (EnvHas.cons rfl (EnvHas.cons rfl (EnvHas.cons rfl EnvHas.nil)))), h271⟩
          ·
            refine PlanT.toLine ?_
            refine Plan.alloc h264 rfl FFieldPowers.z28 (PIn.cons 2 rfl (PIn.cons 3 rfl PIn.nil)) fun b272 w272 hb272 h272 => ?_
            simp only [rngs, Nat.zero_add, Nat.reduceAdd, List.cons_append, List.nil_append] at h272
            refine Plan.call (vs := [AG [(32, fun q => VU .u8 (y2 q))]]) rfl FFieldPowers.call6 rfl (field_Read_ok  hr182 h272) ?_
            rintro _ w275 ⟨rfl, h275⟩
            refine ⟨_, rfl, .inl ⟨PIn.keep (PIn.cons 3 rfl (PIn.cons 4 rfl PIn.nil)) h275, ?_⟩⟩
            refine Plan.storeP (ps := [(5, fun q => VU .u64 (x_148 q))]) h275 rfl rfl rfl (.cons 0 rfl .nil) ⟨fun _ _ => rfl, trivial⟩ FFieldPowers.sz28 (EffO.keep (PIn.cons 3 rfl (PIn.cons 4 rfl PIn.nil))) fun w276 h276 => ?_
            simp only [List.cons_append, List.nil_append, List.set_cons_zero, List.set_cons_succ] at h276
            refine Plan.storeA (f' := fun q => VU .u64 (x_183 q)) h276 1 rfl rfl rfl rfl (fun _ _ => rfl) FFieldPowers.sz28 rfl fun w277 h277 => ?_
            simp only [List.cons_append, List.nil_append, List.set_cons_zero, List.set_cons_succ] at h277
            refine Plan.nil ?_
            have h278 := St.pickT (C := [_, _, _, _, _]) h277 [0, 1, 2] (by decide)
            simp only [pick, List.filterMap_cons, List.filterMap_nil, List.getElem?_cons_zero, List.getElem?_cons_succ, List.cons_append, List.nil_append] at h278
            exact ⟨x_148, x_183, hR, b272, b261, (EnvHas.cons rfl (EnvHas.cons rfl (EnvHas.cons rfl (EnvHas.cons rfl EnvHas.nil)))), h278⟩
        ·
          refine PlanT.toLine ?_
          refine Plan.alloc h261 rfl FFieldPowers.z28 (PIn.cons 2 rfl (PIn.cons 3 rfl PIn.nil)) fun b279 w279 hb279 h279 => ?_
          simp only [rngs, Nat.zero_add, Nat.reduceAdd, List.cons_append, List.nil_append] at h279
          refine Plan.call (vs := [AG [(32, fun q => VU .u8 (x_1 q))]]) rfl FFieldPowers.call6 rfl (field_Read_ok  hr147 h279) ?_
          rintro _ w282 ⟨rfl, h282⟩
          refine ⟨_, rfl, .inl ⟨PIn.keep (PIn.cons 3 rfl (PIn.cons 4 rfl PIn.nil)) h282, ?_⟩⟩
          refine Plan.call (vs := [AG [(32, fun q => VU .u8 (y2 q))]]) rfl FFieldPowers.call6 rfl (field_Read_ok  hr182 h282) ?_
          rintro _ w285 ⟨rfl, h285⟩
          refine ⟨_, rfl, .inl ⟨PIn.keep (PIn.cons 3 rfl (PIn.cons 4 rfl PIn.nil)) h285, ?_⟩⟩
          refine Plan.storeP (ps := [(5, fun q => VU .u64 (x_148 q))]) h285 rfl rfl rfl (.cons 0 rfl .nil) ⟨fun _ _ => rfl, trivial⟩ FFieldPowers.sz28 (EffO.keep (PIn.cons 3 rfl (PIn.cons 4 rfl PIn.nil))) fun w286 h286 => ?_
          simp only [List.cons_append, List.nil_append, List.set_cons_zero, List.set_cons_succ] at h286
          refine Plan.storeA (f' := fun q => VU .u64 (x_183 q)) h286 1 rfl rfl rfl rfl (fun _ _ => rfl) FFieldPowers.sz28 rfl fun w287 h287 => ?_
          simp only [List.cons_append, List.nil_append, List.set_cons_zero, List.set_cons_succ] at h287
          refine Plan.nil ?_
          have h288 := St.pickT (C := [_, _, _, _, _]) h287 [0, 1, 2] (by decide)
          simp only [pick, List.filterMap_cons, List.filterMap_nil, List.getElem?_cons_zero, List.getElem?_cons_succ, List.cons_append, List.nil_append] at h288
          exact ⟨x_148, x_183, hR, b279, b261, (EnvHas.cons rfl (EnvHas.cons rfl (EnvHas.cons rfl (EnvHas.cons rfl EnvHas.nil)))), h288⟩
  ·
    rintro ev289 wl289 ⟨y_m142, y_m144, ⟨hy289_0, hy289_1⟩, b141, b143, he289, h289⟩
    subst hy289_0
    subst hy289_1
    obtain ⟨ev289, rfl⟩ := he289.open
    replace hR := hR0145
    refine hK9 _ _ ?_; clear hK9
    refine W.seq_k fun K290 hK290 => ?_
    refine W.regionT [(0, false), (1, false), (2, false)] (by kernel_rfl) ?_
    obtain ⟨x_292, hr291, hR⟩ := hR
    refine Plan.call (vs := [VU .u32 (1#32)]) rfl FFieldPowers.call11 rfl (field_Small_ok  hr291 h289) ?_
    rintro _ w293 ⟨rfl, h293⟩
    refine ⟨_, rfl, .inl ⟨PIn.keep PIn.nil h293, ?_⟩⟩
    refine Plan.alloc h293 rfl FFieldPowers.z28 PIn.nil fun b294 w294 hb294 h294 => ?_
    simp only [rngs, Nat.zero_add, Nat.reduceAdd, List.cons_append, List.nil_append] at h294
    refine Plan.storeA (f' := fun q => VU .u64 (x_292 q)) h294 0 rfl rfl rfl rfl (fun _ _ => rfl) FFieldPowers.sz28 rfl fun w295 h295 => ?_
    simp only [List.cons_append, List.nil_append, List.set_cons_zero, List.set_cons_succ] at h295
    refine Plan.nil ?_
    refine hK290 _ _ ?_; clear hK290
    refine W.seq_k fun K296 hK296 => ?_
    refine W.seq_k fun K297 hK297 => ?_
    refine W.regionT [(0, true)] (by kernel_rfl) ?_
    refine Plan.assign_int rfl rfl ?_
    refine Plan.nil ?_
    refine hK297 _ _ ?_; clear hK297
    obtain ⟨m318, hI319, hR0319⟩ := hR
    refine W.cutN (fun e w => ∃ y_m318 : Nat → BitVec 64, m318 = y_m318 ∧ EnvHas e [(2, VU .u8 n_3), (7, .pointer (some ⟨b8, 0, none⟩)), (9, .pointer (some ⟨b141, 0, none⟩)), (10, .pointer (some ⟨b143, 0, none⟩)), (11, .pointer (some ⟨b294, 0, none⟩))] ∧ St B w0 (⟨some b294, 0, 5, fun q => VU .u64 (y_m318 q), true⟩ :: ⟨some b141, 0, 5, fun q => VU .u64 (m142 q), true⟩ :: ⟨some b143, 0, 5, fun q => VU .u64 (m144 q), true⟩ :: ⟨some b8, 0, 32, fun q => VU .u8 (k4 q), true⟩ :: L) w) ?_ ?_
    ·
      refine W.block ?_
      refine W.iter hI319 (fun (s319 : (Nat × (Nat → BitVec 64))) e w => EnvHas e [(2, VU .u8 n_3), (7, .pointer (some ⟨b8, 0, none⟩)), (9, .pointer (some ⟨b141, 0, none⟩)), (10, .pointer (some ⟨b143, 0, none⟩)), (11, .pointer (some ⟨b294, 0, none⟩)), (12, VN s319.1)] ∧ St B w0 (⟨some b294, 0, 5, fun q => VU .u64 (s319.2 q), true⟩ :: ⟨some b141, 0, 5, fun q => VU .u64 (m142 q), true⟩ :: ⟨some b143, 0, 5, fun q => VU .u64 (m144 q), true⟩ :: ⟨some b8, 0, 32, fun q => VU .u8 (k4 q), true⟩ :: L) w) ⟨(EnvHas.cons rfl (EnvHas.cons rfl (EnvHas.cons rfl (EnvHas.cons rfl (EnvHas.cons rfl (EnvHas.cons rfl EnvHas.nil)))))), h295⟩ ?_
      rintro ⟨i_316, m317⟩ o319 hR hx319 ev320 wl320 ⟨he320, h320⟩
      obtain ⟨ev320, rfl⟩ := he320.open
      unfold lethelaw06_FieldPowers_l0 at hR
      refine W.seq_k fun K321 hK321 => ?_
      refine W.seq_k fun K322 hK322 => ?_
      refine W.regionT [(0, true), (1, true), (2, true), (3, true)] (by kernel_rfl) ?_
      refine Plan.move_int rfl rfl ?_
      refine Plan.move_int rfl rfl ?_
      refine Plan.convN (a := n_3.toNat) FFieldPowers.u3 FFieldPowers.some5 rfl rfl (Nat.lt_of_lt_of_le n_3.isLt (by decide)) ?_
      refine Plan.cmpP (a := (((i_316 : Nat) : Int) : Int)) (b := (((n_3.toNat : Nat) : Int) : Int)) (p := i_316 < n_3.toNat) rfl rfl rfl rfl icmp_ltN ?_
      refine Plan.nil ?_
      refine hK322 _ _ ?_; clear hK322
      by_cases hc323 : i_316 < n_3.toNat
      ·
        replace hR := ifT hR hc323
        refine W.condT (congrArg Value.bool (decide_eq_true hc323)) ?_
        refine W.skip ?_
        refine hK321 _ _ ?_; clear hK321
        refine W.seq_k fun K324 hK324 => ?_
        refine W.block ?_
        refine W.regionT [(0, true), (1, true), (2, false), (3, false)] (by kernel_rfl) ?_
        refine Plan.loadA1 h320 0 rfl rfl rfl FFieldPowers.agg28 ?_
        refine Plan.loadA1 h320 1 rfl rfl rfl FFieldPowers.agg28 ?_
        obtain ⟨x_326, hr325, hR⟩ := hR
        refine Plan.call (vs := [AG [(5, fun q => VU .u64 (m317 q))], AG [(5, fun q => VU .u64 (m142 q))]]) rfl FFieldPowers.call13 rfl (field_Elem_Mul_ok  hr325 h320) ?_
        rintro _ w327 ⟨rfl, h327⟩
        refine ⟨_, rfl, .inr ⟨rfl, ?_⟩⟩
        refine Plan.storeA (f' := fun q => VU .u64 (x_326 q)) h327 0 rfl rfl rfl rfl (fun _ _ => rfl) FFieldPowers.sz28 rfl fun w328 h328 => ?_
        simp only [List.cons_append, List.nil_append, List.set_cons_zero, List.set_cons_succ] at h328
        refine Plan.nil ?_
        refine blockR_norm ?_
        refine hK324 _ _ ?_; clear hK324
        refine W.regionT [(0, true), (1, true), (2, true)] (by kernel_rfl) ?_
        refine Plan.move_int rfl rfl ?_
        refine Plan.addN (a := i_316) (b := 1) rfl rfl rfl (by omega) ?_
        refine Plan.assign_int rfl rfl ?_
        refine Plan.nil ?_
        exact iterR_norm ⟨_, hR, (EnvHas.cons rfl (EnvHas.cons rfl (EnvHas.cons rfl (EnvHas.cons rfl (EnvHas.cons rfl (EnvHas.cons rfl EnvHas.nil)))))), h328⟩
      ·
        replace hR := ifF hR hc323
        refine W.condF (congrArg Value.bool (decide_eq_false hc323)) ?_
        refine W.exit (thenR_exit (iterR_exit (blockR_here ?_)))
        exact ⟨m317, (hx319 _ hR).symm, (EnvHas.cons rfl (EnvHas.cons rfl (EnvHas.cons rfl (EnvHas.cons rfl (EnvHas.cons rfl EnvHas.nil))))), h320⟩
    ·
      rintro ev329 wl329 ⟨y_m318, hy329, he329, h329⟩
      obtain ⟨ev329, rfl⟩ := he329.open
      subst hy329
      replace hR := hR0319
      refine hK296 _ _ ?_; clear hK296
      refine W.seq_k fun K330 hK330 => ?_
      refine W.seq_k fun K361 hK361 => ?_
      refine W.regionD FFieldPowers.mixed [(0, true), (1, true), (2, true), (4, true), (3, false), (5, false), (6, true), (7, true), (8, true), (9, true), (11, true), (13, true), (14, true), (16, true), (17, true), (10, false), (12, false), (15, false), (18, false), (19, false), (20, false), (21, true), (22, true)] (by kernel_rfl) ?_
      have h362 := h329.drew
      refine Plan.loadA1 h362 1 rfl rfl rfl FFieldPowers.agg28 ?_
      refine Plan.move_int rfl rfl ?_
      refine Plan.buildArr (ps := [(32, fun q => VU .u8 ((upd (fun _ => 0#8) 0 n_3) q))]) FFieldPowers.arr23 FFieldPowers.z23 rfl rfl rfl ?_
      refine Plan.loadA1 h362 0 rfl rfl rfl FFieldPowers.agg28 ?_
      obtain ⟨x_364, hr363, hR⟩ := hR
      refine Plan.call (vs := [AG [(5, fun q => VU .u64 (m142 q))], AG [(32, fun q => VU .u8 ((upd (fun _ => 0#8) 0 n_3) q))]]) rfl FFieldPowers.call14 rfl (field_Elem_Pow_ok  hr363 h362) ?_
      rintro _ w365 ⟨rfl, h365⟩
      refine ⟨_, rfl, .inl ⟨PIn.keep (PIn.cons 0 rfl (PIn.cons 1 rfl PIn.nil)) h365, ?_⟩⟩
      obtain ⟨x_367, hr366, hR⟩ := hR
      refine Plan.call (vs := [AG [(5, fun q => VU .u64 (x_364 q))], AG [(5, fun q => VU .u64 (m318 q))]]) rfl FFieldPowers.call9 rfl (field_Elem_Equal_ok  hr366 h365) ?_
      rintro _ w368 ⟨rfl, h368⟩
      refine ⟨_, rfl, .inl ⟨PIn.keep (PIn.cons 0 rfl (PIn.cons 1 rfl PIn.nil)) h368, ?_⟩⟩
      by_cases hc369 : x_367 = true
      ·
        replace hR := ifT hR hc369
        obtain rfl : x_367 = true := hc369
        refine Plan.notT rfl rfl ?_
        refine Plan.move_bool rfl rfl ?_
        refine Plan.loadA1 h368 1 rfl rfl rfl FFieldPowers.agg28 ?_
        refine Plan.loadA1 h368 2 rfl rfl rfl FFieldPowers.agg28 ?_
        refine Plan.loadA1 h368 3 rfl rfl rfl FFieldPowers.agg23 ?_
        refine Plan.loadA1 h368 1 rfl rfl rfl FFieldPowers.agg28 ?_
        refine Plan.loadA1 h368 3 rfl rfl rfl FFieldPowers.agg23 ?_
        refine Plan.loadA1 h368 2 rfl rfl rfl FFieldPowers.agg28 ?_
        refine Plan.loadA1 h368 3 rfl rfl rfl FFieldPowers.agg23 ?_
        obtain ⟨x_371, hr370, hR⟩ := hR
        refine Plan.call (vs := [AG [(5, fun q => VU .u64 (m142 q))], AG [(5, fun q => VU .u64 (m144 q))]]) rfl FFieldPowers.call13 rfl (field_Elem_Mul_ok  hr370 h368) ?_
        rintro _ w372 ⟨rfl, h372⟩
        refine ⟨_, rfl, .inl ⟨PIn.keep (PIn.cons 3 rfl (PIn.cons 2 rfl (PIn.cons 3 rfl (PIn.cons 1 rfl (PIn.cons 3 rfl (PIn.cons 2 rfl (PIn.cons 1 rfl (PIn.cons 0 rfl (PIn.cons 1 rfl PIn.nil))))))))) h372, ?_⟩⟩
        obtain ⟨x_374, hr373, hR⟩ := hR
        refine Plan.call (vs := [AG [(5, fun q => VU .u64 (x_371 q))], AG [(32, fun q => VU .u8 (k4 q))]]) rfl FFieldPowers.call14 rfl (field_Elem_Pow_ok  hr373 h372) ?_
        rintro _ w375 ⟨rfl, h375⟩
        refine ⟨_, rfl, .inl ⟨PIn.keep (PIn.cons 3 rfl (PIn.cons 2 rfl (PIn.cons 3 rfl (PIn.cons 1 rfl (PIn.cons 3 rfl (PIn.cons 2 rfl (PIn.cons 1 rfl (PIn.cons 0 rfl (PIn.cons 1 rfl PIn.nil))))))))) h375, ?_⟩⟩
        obtain ⟨x_377, hr376, hR⟩ := hR
        refine Plan.call (vs := [AG [(5, fun q => VU .u64 (m142 q))], AG [(32, fun q => VU .u8 (k4 q))]]) rfl FFieldPowers.call14 rfl (field_Elem_Pow_ok  hr376 h375) ?_
        rintro _ w378 ⟨rfl, h378⟩
        refine ⟨_, rfl, .inl ⟨PIn.keep (PIn.cons 3 rfl (PIn.cons 2 rfl (PIn.cons 3 rfl (PIn.cons 1 rfl (PIn.cons 3 rfl (PIn.cons 2 rfl (PIn.cons 1 rfl (PIn.cons 0 rfl (PIn.cons 1 rfl PIn.nil))))))))) h378, ?_⟩⟩
        obtain ⟨x_380, hr379, hR⟩ := hR
        refine Plan.call (vs := [AG [(5, fun q => VU .u64 (m144 q))], AG [(32, fun q => VU .u8 (k4 q))]]) rfl FFieldPowers.call14 rfl (field_Elem_Pow_ok  hr379 h378) ?_
        rintro _ w381 ⟨rfl, h381⟩
        refine ⟨_, rfl, .inl ⟨PIn.keep (PIn.cons 3 rfl (PIn.cons 2 rfl (PIn.cons 3 rfl (PIn.cons 1 rfl (PIn.cons 3 rfl (PIn.cons 2 rfl (PIn.cons 1 rfl (PIn.cons 0 rfl (PIn.cons 1 rfl PIn.nil))))))))) h381, ?_⟩⟩
        obtain ⟨x_383, hr382, hR⟩ := hR
        refine Plan.call (vs := [AG [(5, fun q => VU .u64 (x_377 q))], AG [(5, fun q => VU .u64 (x_380 q))]]) rfl FFieldPowers.call13 rfl (field_Elem_Mul_ok  hr382 h381) ?_
        rintro _ w384 ⟨rfl, h384⟩
        refine ⟨_, rfl, .inl ⟨PIn.keep (PIn.cons 3 rfl (PIn.cons 2 rfl (PIn.cons 3 rfl (PIn.cons 1 rfl (PIn.cons 3 rfl (PIn.cons 2 rfl (PIn.cons 1 rfl (PIn.cons 0 rfl (PIn.cons 1 rfl PIn.nil))))))))) h384, ?_⟩⟩
        obtain ⟨x_386, hr385, hR⟩ := hR
        refine Plan.call (vs := [AG [(5, fun q => VU .u64 (x_374 q))], AG [(5, fun q => VU .u64 (x_383 q))]]) rfl FFieldPowers.call9 rfl (field_Elem_Equal_ok  hr385 h384) ?_
        rintro _ w387 ⟨rfl, h387⟩
        refine ⟨_, rfl, .inl ⟨PIn.keep (PIn.cons 3 rfl (PIn.cons 2 rfl (PIn.cons 3 rfl (PIn.cons 1 rfl (PIn.cons 3 rfl (PIn.cons 2 rfl (PIn.cons 1 rfl (PIn.cons 0 rfl (PIn.cons 1 rfl PIn.nil))))))))) h387, ?_⟩⟩
        refine Plan.not rfl rfl ?_
        refine Plan.pickFb rfl rfl rfl ?_
        refine Plan.nil ?_
        refine hK361 _ _ ?_; clear hK361
        by_cases hc388 : x_386 = true
        ·
          replace hR := ifT hR hc388
          refine W.condF (congrArg Value.bool (congrArg Bool.not hc388)) ?_
          refine W.skip ?_
          refine hK330 _ _ ?_; clear hK330
          refine W.seq_k fun K389 hK389 => ?_
          refine W.regionT [(0, true), (1, false), (2, false)] (by kernel_rfl) ?_
          refine Plan.loadA1 h387 3 rfl rfl rfl FFieldPowers.agg23 ?_
          refine Plan.alloc h387 rfl FFieldPowers.z23 (PIn.cons 3 rfl PIn.nil) fun b390 w390 hb390 h390 => ?_
          simp only [rngs, Nat.zero_add, Nat.reduceAdd, List.cons_append, List.nil_append] at h390
          refine Plan.storeA (f' := fun q => VU .u8 (k4 q)) h390 0 rfl rfl rfl rfl (fun _ _ => rfl) FFieldPowers.sz23 rfl fun w391 h391 => ?_
          simp only [List.cons_append, List.nil_append, List.set_cons_zero, List.set_cons_succ] at h391
          refine Plan.nil ?_
          refine hK389 _ _ ?_; clear hK389
          refine W.seq_k fun K392 hK392 => ?_
          refine W.regionT [(0, true), (1, true), (2, true), (3, true), (4, false)] (by kernel_rfl) ?_
          refine Plan.idxArr1 (j := 31) FFieldPowers.arr23 rfl rfl rfl (by omega) ?_
          refine Plan.load1 (j := 31) h391 0 rfl rfl rfl (by omega) FFieldPowers.sc5 ?_
          refine Plan.andU .u8 (X := (k4 31)) (Y := 127#8) rfl rfl rfl ?_
          refine Plan.idxArr1 (j := 31) FFieldPowers.arr23 rfl rfl rfl (by omega) ?_
          refine Plan.storeU (j := 31) (X := ((k4 31) &&& (127#8))) h391 0 rfl rfl rfl rfl (by omega) FFieldPowers.sz5 rfl fun w393 h393 => ?_
          simp only [List.cons_append, List.nil_append, List.set_cons_zero, List.set_cons_succ] at h393
          refine Plan.nil ?_
          refine hK392 _ _ ?_; clear hK392
          refine W.seq_k fun K394 hK394 => ?_
          refine W.regionT [(0, true), (1, true), (2, false), (3, false), (4, false)] (by kernel_rfl) ?_
          refine Plan.loadA1 h393 2 rfl rfl rfl FFieldPowers.agg28 ?_
          refine Plan.loadA1 h393 0 rfl rfl rfl FFieldPowers.agg23 ?_
          obtain ⟨x_396, hr395, hR⟩ := hR
          refine Plan.call (vs := [AG [(5, fun q => VU .u64 (m142 q))], AG [(32, fun q => VU .u8 ((upd k4 31 ((k4 31) &&& (127#8))) q))]]) rfl FFieldPowers.call14 rfl (field_Elem_Pow_ok  hr395 h393) ?_
          rintro _ w397 ⟨rfl, h397⟩
          refine ⟨_, rfl, .inr ⟨rfl, ?_⟩⟩
          refine Plan.alloc h397 rfl FFieldPowers.z28 PIn.nil fun b398 w398 hb398 h398 => ?_
          simp only [rngs, Nat.zero_add, Nat.reduceAdd, List.cons_append, List.nil_append] at h398
          refine Plan.storeA (f' := fun q => VU .u64 (x_396 q)) h398 0 rfl rfl rfl rfl (fun _ _ => rfl) FFieldPowers.sz28 rfl fun w399 h399 => ?_
          simp only [List.cons_append, List.nil_append, List.set_cons_zero, List.set_cons_succ] at h399
          refine Plan.nil ?_
          refine hK394 _ _ ?_; clear hK394
          refine W.seq_k fun K400 hK400 => ?_
          obtain ⟨m411, hX412, hR0412⟩ := hR
          refine W.cutN (fun e w => ∃ y_m411 : Nat → BitVec 64, (m411 = y_m411) ∧ EnvHas e [(7, .pointer (some ⟨b8, 0, none⟩)), (9, .pointer (some ⟨b141, 0, none⟩)), (14, .pointer (some ⟨b398, 0, none⟩))] ∧ St B w0 (⟨some b398, 0, 5, fun q => VU .u64 (y_m411 q), true⟩ :: ⟨some b141, 0, 5, fun q => VU .u64 (m142 q), true⟩ :: ⟨some b8, 0, 32, fun q => VU .u8 (k4 q), true⟩ :: L) w) ?_ ?_
          ·
            replace hR := hX412
            refine W.seq_k fun K413 hK413 => ?_
            refine W.regionT [(0, true), (1, true), (2, true)] (by kernel_rfl) ?_
            refine Plan.idxArr1 (j := 31) FFieldPowers.arr23 rfl rfl rfl (by omega) ?_
            refine Plan.load1 (j := 31) h399 5 rfl rfl rfl (by omega) FFieldPowers.sc5 ?_
            refine Plan.cmpP (a := ((k4 31).toNat : Int)) (b := ((127#8).toNat : Int)) (p := (127#8).toNat < (k4 31).toNat) rfl rfl rfl rfl icmp_gtN ?_
            refine Plan.nil ?_
            refine hK413 _ _ ?_; clear hK413
            by_cases hc414 : (127#8).toNat < (k4 31).toNat
            ·
              replace hR := ifT hR hc414
              refine W.condT (congrArg Value.bool (decide_eq_true hc414)) ?_
              refine W.regionD FFieldPowers.mixed [(0, true), (1, true), (2, true), (3, false), (4, false), (5, false)] (by kernel_rfl) ?_
              have h415 := h399.drew
              refine Plan.loadA1 h415 0 rfl rfl rfl FFieldPowers.agg28 ?_
              refine Plan.loadA1 h415 3 rfl rfl rfl FFieldPowers.agg28 ?_
              refine Plan.buildArr (ps := [(32, fun q => VU .u8 ((upd (fun _ => 0#8) 0 (20#8)) q))]) FFieldPowers.arr23 FFieldPowers.z23 rfl rfl (by kernel_rfl) ?_
              obtain ⟨x_417, hr416, hR⟩ := hR
              refine Plan.call (vs := [AG [(5, fun q => VU .u64 (m142 q))], AG [(32, fun q => VU .u8 ((upd (fun _ => 0#8) 0 (20#8)) q))]]) rfl FFieldPowers.call14 rfl (field_Elem_Pow_ok  hr416 h415) ?_
              rintro _ w418 ⟨rfl, h418⟩
              refine ⟨_, rfl, .inl ⟨PIn.keep (PIn.cons 3 rfl (PIn.cons 0 rfl PIn.nil)) h418, ?_⟩⟩
              obtain ⟨x_420, hr419, hR⟩ := hR
              refine Plan.call (vs := [AG [(5, fun q => VU .u64 (x_396 q))], AG [(5, fun q => VU .u64 (x_417 q))]]) rfl FFieldPowers.call13 rfl (field_Elem_Mul_ok  hr419 h418) ?_
              rintro _ w421 ⟨rfl, h421⟩
              refine ⟨_, rfl, .inl ⟨PIn.keep (PIn.cons 3 rfl (PIn.cons 0 rfl PIn.nil)) h421, ?_⟩⟩
              refine Plan.storeA (f' := fun q => VU .u64 (x_420 q)) h421 0 rfl rfl rfl rfl (fun _ _ => rfl) FFieldPowers.sz28 rfl fun w422 h422 => ?_
              simp only [List.cons_append, List.nil_append, List.set_cons_zero, List.set_cons_succ] at h422
              refine Plan.nil ?_
              have h423 := St.pickT (C := [_, _, _, _, _, _]) h422 [0, 3, 5] (by decide)
              simp only [pick, List.filterMap_cons, List.filterMap_nil, List.getElem?_cons_zero, List.getElem?_cons_succ, List.cons_append, List.nil_append] at h423
              exact ⟨x_420, hR, (EnvHas.cons rfl (EnvHas.cons rfl (EnvHas.cons rfl EnvHas.nil))), h423⟩
            ·
              replace hR := ifF hR hc414
              refine W.condF (congrArg Value.bool (decide_eq_false hc414)) ?_
              refine W.skip ?_
              have h424 := St.pickT (C := [_, _, _, _, _, _]) h399 [0, 3, 5] (by decide)
              simp only [pick, List.filterMap_cons, List.filterMap_nil, List.getElem?_cons_zero, List.getElem?_cons_succ, List.cons_append, List.nil_append] at h424
              exact ⟨x_396, hR, (EnvHas.cons rfl (EnvHas.cons rfl (EnvHas.cons rfl EnvHas.nil))), h424⟩
          ·
            rintro ev425 wl425 ⟨y_m411, hy425_0, he425, h425⟩
            subst hy425_0
            obtain ⟨ev425, rfl⟩ := he425.open
            replace hR := hR0412
            refine hK400 _ _ ?_; clear hK400
            refine W.seq_k fun K426 hK426 => ?_
            refine W.regionD FFieldPowers.mixed [(0, true), (1, true), (3, true), (2, false), (4, false), (5, true)] (by kernel_rfl) ?_
            have h427 := h425.drew
            refine Plan.loadA1 h427 1 rfl rfl rfl FFieldPowers.agg28 ?_
            refine Plan.loadA1 h427 2 rfl rfl rfl FFieldPowers.agg23 ?_
            refine Plan.loadA1 h427 0 rfl rfl rfl FFieldPowers.agg28 ?_
            obtain ⟨x_429, hr428, hR⟩ := hR
            refine Plan.call (vs := [AG [(5, fun q => VU .u64 (m142 q))], AG [(32, fun q => VU .u8 (k4 q))]]) rfl FFieldPowers.call14 rfl (field_Elem_Pow_ok  hr428 h427) ?_
            rintro _ w430 ⟨rfl, h430⟩
            refine ⟨_, rfl, .inl ⟨PIn.keep (PIn.cons 0 rfl (PIn.cons 2 rfl (PIn.cons 1 rfl PIn.nil))) h430, ?_⟩⟩
            obtain ⟨x_432, hr431, hR⟩ := hR
            refine Plan.call (vs := [AG [(5, fun q => VU .u64 (x_429 q))], AG [(5, fun q => VU .u64 (m411 q))]]) rfl FFieldPowers.call9 rfl (field_Elem_Equal_ok  hr431 h430) ?_
            rintro _ w433 ⟨rfl, h433⟩
            refine ⟨_, rfl, .inl ⟨PIn.keep (PIn.cons 0 rfl (PIn.cons 2 rfl (PIn.cons 1 rfl PIn.nil))) h433, ?_⟩⟩
            refine Plan.assign_bool rfl rfl ?_
            refine Plan.nil ?_
            refine hK426 _ _ ?_; clear hK426
            refine W.ret (finR_ret ?_)
            have h434 := St.pickT (C := [_, _, _]) h433 [] (by decide)
            simp only [pick, List.filterMap_cons, List.filterMap_nil, List.getElem?_cons_zero, List.getElem?_cons_succ, List.cons_append, List.nil_append] at h434
            subst r
            refine RetOk.mk (.tmp_bool rfl .nil) ?_
            exact ⟨rfl, h434⟩
        ·
          replace hR := ifF hR hc388
          refine W.condT (congrArg Value.bool (congrArg Bool.not (Bool.eq_false_iff.2 hc388))) ?_
          refine W.seq_k fun K435 hK435 => ?_
          refine W.regionT [(0, true)] (by kernel_rfl) ?_
          refine Plan.assign_bool rfl rfl ?_
          refine Plan.nil ?_
          refine hK435 _ _ ?_; clear hK435
          refine W.ret (thenR_ret (finR_ret ?_))
          have h436 := St.pickT (C := [_, _, _, _]) h387 [] (by decide)
          simp only [pick, List.filterMap_cons, List.filterMap_nil, List.getElem?_cons_zero, List.getElem?_cons_succ, List.cons_append, List.nil_append] at h436
          subst r
          refine RetOk.mk (.tmp_bool rfl .nil) ?_
          exact ⟨rfl, h436⟩
      ·
        replace hR := ifF hR hc369
        obtain rfl : x_367 = false := Bool.eq_false_iff.2 hc369
        refine Plan.notF rfl rfl ?_
        refine Plan.move_bool rfl rfl ?_
        refine Plan.passed rfl ?_
        refine Plan.passed rfl ?_
        refine Plan.passed rfl ?_
        refine Plan.passed rfl ?_
        refine Plan.passed rfl ?_
        refine Plan.passed rfl ?_
        refine Plan.passed rfl ?_
        refine Plan.passed rfl ?_
        refine Plan.passed rfl ?_
        refine Plan.passed rfl ?_
        refine Plan.passed rfl ?_
        refine Plan.passed rfl ?_
        refine Plan.passed rfl ?_
        refine Plan.passed rfl ?_
        refine Plan.pickTb rfl rfl rfl ?_
        refine Plan.nil ?_
        refine hK361 _ _ ?_; clear hK361
        refine W.condT rfl ?_
        refine W.seq_k fun K437 hK437 => ?_
        refine W.regionT [(0, true)] (by kernel_rfl) ?_
        refine Plan.assign_bool rfl rfl ?_
        refine Plan.nil ?_
        refine hK437 _ _ ?_; clear hK437
        refine W.ret (thenR_ret (finR_ret ?_))
        have h438 := St.pickT (C := [_, _, _, _]) h368 [] (by decide)
        simp only [pick, List.filterMap_cons, List.filterMap_nil, List.getElem?_cons_zero, List.getElem?_cons_succ, List.cons_append, List.nil_append] at h438
        subst r
        refine RetOk.mk (.tmp_bool rfl .nil) ?_
        exact ⟨rfl, h438⟩

end Go.Proofs.Ytjblfkmmbpcpaaa
