/-
  WALKS of the package's functions, printed by this session's own program (auto.py).
-/
import Derived.Test.YtjblfkmmbpcpaaaProg
import Derived.Test.YtjblfkmmbpcpaaaLx6
import Derived.Test.YtjblfkmmbpcpaaaRFieldInverts
import Derived.Test.YtjblfkmmbpcpaaaWField
import Derived.Test.YtjblfkmmbpcpaaaWLaw06
namespace Go.Proofs.Ytjblfkmmbpcpaaa
set_option linter.unusedSimpArgs false
set_option linter.unusedVariables false
set_option linter.unusedSectionVars false
open Go Go.LW
theorem FFieldInverts.agg23 : aggT Try.prog 23 32 = true := by kernel_rfl
theorem FFieldInverts.z28 : zeroIs Try.prog 28 [(5, fun _ => VU .u64 0#64)] := zeroIs_agg (by kernel_rfl)
theorem FFieldInverts.mixed : Try.prog.follows .mixedOrders = true := by kernel_rfl
theorem FFieldInverts.sz28 : szT Try.prog 28 5 = true := by kernel_rfl
theorem FFieldInverts.agg28 : aggT Try.prog 28 5 = true := by kernel_rfl
theorem FFieldInverts.call6 : callB Try.prog 6 = true := by kernel_rfl
theorem FFieldInverts.z23 : zeroIs Try.prog 23 [(32, fun _ => VU .u8 0#8)] := zeroIs_agg (by kernel_rfl)
theorem FFieldInverts.call9 : callB Try.prog 9 = true := by kernel_rfl
theorem FFieldInverts.call10 : callB Try.prog 10 = true := by kernel_rfl
theorem FFieldInverts.call11 : callB Try.prog 11 = true := by kernel_rfl
theorem FFieldInverts.call13 : callB Try.prog 13 = true := by kernel_rfl
theorem FFieldInverts.call14 : callB Try.prog 14 = true := by kernel_rfl
theorem FFieldInverts.row28 : rowB Try.prog 28 = true := by kernel_rfl
theorem FFieldInverts.call15 : callB Try.prog 15 = true := by kernel_rfl
theorem FFieldInverts.row23 : rowB Try.prog 23 = true := by kernel_rfl

set_option maxRecDepth 8000 in
set_option maxHeartbeats 1000000 in
theorem lethelaw06_FieldInverts_ok {B : Nat} {w0 w : World} {L : List Rg} {x_1 : Nat → BitVec 8} {y2 : Nat → BitVec 8} {r : Bool} (hR : lethelaw06_FieldInverts x_1 y2 r) (HST : St B w0 (L) w) :
    Calls Try.prog 5 #[AG [(32, fun q => VU .u8 (x_1 q))], AG [(32, fun q => VU .u8 (y2 q))]] w fun e w' => e = .returned (.bool r) ∧ St B w0 (L) w' := by
  refine W.enter 74 Try.func5 rfl rfl rfl ?_
  unfold lethelaw06_FieldInverts at hR
  refine W.seq_k fun K3 hK3 => ?_
  refine W.regionT [(0, false), (1, false), (2, true)] (by kernel_rfl) ?_
  refine Plan.boxA HST rfl rfl PIn.nil fun b4 w4 hb4 h4 => ?_
  simp only [rngs, Nat.zero_add, Nat.reduceAdd, List.cons_append, List.nil_append] at h4
  refine Plan.boxA h4 rfl rfl PIn.nil fun b5 w5 hb5 h5 => ?_
  simp only [rngs, Nat.zero_add, Nat.reduceAdd, List.cons_append, List.nil_append] at h5
  refine Plan.assign_bool rfl rfl ?_
  refine Plan.nil ?_
  refine hK3 _ _ ?_; clear hK3
  refine W.seq_k fun K6 hK6 => ?_
  obtain ⟨m139, m141, hX142, hR0142⟩ := hR
  refine W.cutN (fun e w => ∃ y_m139 : Nat → BitVec 64, ∃ y_m141 : Nat → BitVec 64, (m139 = y_m139 ∧ m141 = y_m141) ∧ ∃ b138 : Nat, ∃ b140 : Nat, EnvHas e [(5, .pointer (some ⟨b138, 0, none⟩)), (6, .pointer (some ⟨b140, 0, none⟩))] ∧ St B w0 (⟨some b138, 0, 5, fun q => VU .u64 (y_m139 q), true⟩ :: ⟨some b140, 0, 5, fun q => VU .u64 (y_m141 q), true⟩ :: L) w) ?_ ?_
  ·
    replace hR := hX142
    refine W.regionF FFieldInverts.mixed (.fork [(0, true), (2, true)] (.fork [(1, false)] (.fork [(3, false)] (.line [(4, false), (5, false), (6, false), (7, false)]) (.line [(5, false), (4, false), (6, false), (7, false)])) (.fork [] (.fork [(4, false)] (.line [(3, false), (5, false), (6, false), (7, false)]) (.line [(5, false), (3, false), (6, false), (7, false)])) (.fork [(5, false)] (.line [(3, false), (4, false), (6, false), (7, false)]) (.line [(4, false), (3, false), (6, false), (7, false)])))) (.fork [] (.fork [(4, false)] (.fork [(1, false)] (.line [(3, false), (5, false), (6, false), (7, false)]) (.line [(5, false), (3, false), (6, false), (7, false)])) (.line [(5, false), (1, false), (3, false), (6, false), (7, false)])) (.fork [(5, false)] (.fork [(1, false)] (.line [(3, false), (4, false), (6, false), (7, false)]) (.line [(4, false), (3, false), (6, false), (7, false)])) (.line [(4, false), (1, false), (3, false), (6, false), (7, false)])))) (by kernel_rfl) (PlanT.toFork ?_)
    have h143 := h5.drew
    refine Plan.loadA1 h143 1 rfl rfl rfl FFieldInverts.agg23 ?_
    refine Plan.loadA1 h143 0 rfl rfl rfl FFieldInverts.agg23 ?_
    obtain ⟨x_145, hr144, hR⟩ := hR
    obtain ⟨x_148, hr147, hR⟩ := hR
    obtain ⟨x_160, hr159, hR⟩ := hR
    obtain ⟨x_167, hr166, hR⟩ := hR
    obtain ⟨x_173, hr172, hR⟩ := hR
    obtain ⟨x_180, hr179, hR⟩ := hR
    refine Plan.forked ?_ ?_
    ·
      refine PlanT.toFork ?_
      refine Plan.call (vs := [AG [(32, fun q => VU .u8 (x_1 q))]]) rfl FFieldInverts.call6 rfl (field_Read_ok  hr144 h143) ?_
      rintro _ w186 ⟨rfl, h186⟩
      refine ⟨_, rfl, .inl ⟨PIn.keep (PIn.cons 0 rfl (PIn.cons 1 rfl PIn.nil)) h186, ?_⟩⟩
      refine Plan.forked ?_ ?_
      ·
        refine PlanT.toFork ?_
        refine Plan.call (vs := [AG [(32, fun q => VU .u8 (y2 q))]]) rfl FFieldInverts.call6 rfl (field_Read_ok  hr179 h186) ?_
        rintro _ w189 ⟨rfl, h189⟩
        refine ⟨_, rfl, .inl ⟨PIn.keep (PIn.cons 0 rfl (PIn.cons 1 rfl PIn.nil)) h189, ?_⟩⟩
        refine Plan.forked ?_ ?_
        ·
          refine PlanT.toLine ?_
          refine Plan.alloc h189 rfl FFieldInverts.z28 (PIn.cons 0 rfl (PIn.cons 1 rfl PIn.nil)) fun b190 w190 hb190 h190 => ?_
          simp only [rngs, Nat.zero_add, Nat.reduceAdd, List.cons_append, List.nil_append] at h190
          refine Plan.alloc h190 rfl FFieldInverts.z28 (PIn.cons 1 rfl (PIn.cons 2 rfl PIn.nil)) fun b191 w191 hb191 h191 => ?_
          simp only [rngs, Nat.zero_add, Nat.reduceAdd, List.cons_append, List.nil_append] at h191
          refine Plan.storeP (ps := [(5, fun q => VU .u64 (x_145 q))]) h191 rfl rfl rfl (.cons 1 rfl .nil) ⟨fun _ _ => rfl, trivial⟩ FFieldInverts.sz28 (EffO.keep (PIn.cons 2 rfl (PIn.cons 3 rfl PIn.nil))) fun w192 h192 => ?_
          simp only [List.cons_append, List.nil_append, List.set_cons_zero, List.set_cons_succ] at h192
          refine Plan.storeA (f' := fun q => VU .u64 (x_180 q)) h192 0 rfl rfl rfl rfl (fun _ _ => rfl) FFieldInverts.sz28 rfl fun w193 h193 => ?_
          simp only [List.cons_append, List.nil_append, List.set_cons_zero, List.set_cons_succ] at h193
          refine Plan.nil ?_
          have h194 := St.pickT (C := [_, _, _, _]) h193 [1, 0] (by decide)
          simp only [pick, List.filterMap_cons, List.filterMap_nil, List.getElem?_cons_zero, List.getElem?_cons_succ, List.cons_append, List.nil_append] at h194
          exact ⟨x_145, x_180, hR, b190, b191, (EnvHas.cons rfl (EnvHas.cons rfl EnvHas.nil)), h194⟩
        ·
          refine PlanT.toLine ?_
          refine Plan.alloc h189 rfl FFieldInverts.z28 (PIn.cons 0 rfl (PIn.cons 1 rfl PIn.nil)) fun b195 w195 hb195 h195 => ?_
          simp only [rngs, Nat.zero_add, Nat.reduceAdd, List.cons_append, List.nil_append] at h195
          refine Plan.alloc h195 rfl FFieldInverts.z28 (PIn.cons 1 rfl (PIn.cons 2 rfl PIn.nil)) fun b196 w196 hb196 h196 => ?_
          simp only [rngs, Nat.zero_add, Nat.reduceAdd, List.cons_append, List.nil_append] at h196
          refine Plan.storeP (ps := [(5, fun q => VU .u64 (x_145 q))]) h196 rfl rfl rfl (.cons 0 rfl .nil) ⟨fun _ _ => rfl, trivial⟩ FFieldInverts.sz28 (EffO.keep (PIn.cons 2 rfl (PIn.cons 3 rfl PIn.nil))) fun w197 h197 => ?_
          simp only [List.cons_append, List.nil_append, List.set_cons_zero, List.set_cons_succ] at h197
          refine Plan.storeA (f' := fun q => VU .u64 (x_180 q)) h197 1 rfl rfl rfl rfl (fun _ _ => rfl) FFieldInverts.sz28 rfl fun w198 h198 => ?_
          simp only [List.cons_append, List.nil_append, List.set_cons_zero, List.set_cons_succ] at h198
          refine Plan.nil ?_
          have h199 := St.pickT (C := [_, _, _, _]) h198 [0, 1] (by decide)
          simp only [pick, List.filterMap_cons, List.filterMap_nil, List.getElem?_cons_zero, List.getElem?_cons_succ, List.cons_append, List.nil_append] at h199
          exact ⟨x_145, x_180, hR, b196, b195, (EnvHas.cons rfl (EnvHas.cons rfl EnvHas.nil)), h199⟩
      ·
        refine PlanT.toFork ?_
        refine Plan.forked ?_ ?_
        ·
          refine PlanT.toFork ?_
          refine Plan.alloc h186 rfl FFieldInverts.z28 (PIn.cons 0 rfl (PIn.cons 1 rfl PIn.nil)) fun b200 w200 hb200 h200 => ?_
          simp only [rngs, Nat.zero_add, Nat.reduceAdd, List.cons_append, List.nil_append] at h200
          refine Plan.forked ?_ ?_
          ·
            refine PlanT.toLine ?_
            refine Plan.call (vs := [AG [(32, fun q => VU .u8 (y2 q))]]) rfl FFieldInverts.call6 rfl (field_Read_ok  hr179 h200) ?_
            rintro _ w203 ⟨rfl, h203⟩
            refine ⟨_, rfl, .inl ⟨PIn.keep (PIn.cons 1 rfl (PIn.cons 2 rfl PIn.nil)) h203, ?_⟩⟩
            refine Plan.alloc h203 rfl FFieldInverts.z28 (PIn.cons 1 rfl (PIn.cons 2 rfl PIn.nil)) fun b204 w204 hb204 h204 => ?_
            simp only [rngs, Nat.zero_add, Nat.reduceAdd, List.cons_append, List.nil_append] at h204
            refine Plan.storeP (ps := [(5, fun q => VU .u64 (x_145 q))]) h204 rfl rfl rfl (.cons 1 rfl .nil) ⟨fun _ _ => rfl, trivial⟩ FFieldInverts.sz28 (EffO.keep (PIn.cons 2 rfl (PIn.cons 3 rfl PIn.nil))) fun w205 h205 => ?_
            simp only [List.cons_append, List.nil_append, List.set_cons_zero, List.set_cons_succ] at h205
            refine Plan.storeA (f' := fun q => VU .u64 (x_180 q)) h205 0 rfl rfl rfl rfl (fun _ _ => rfl) FFieldInverts.sz28 rfl fun w206 h206 => ?_
            simp only [List.cons_append, List.nil_append, List.set_cons_zero, List.set_cons_succ] at h206
            refine Plan.nil ?_
            have h207 := St.pickT (C := [_, _, _, _]) h206 [1, 0] (by decide)
            simp only [pick, List.filterMap_cons, List.filterMap_nil, List.getElem?_cons_zero, List.getElem?_cons_succ, List.cons_append, List.nil_append] at h207
            exact ⟨x_145, x_180, hR, b200, b204, (EnvHas.cons rfl (EnvHas.cons rfl EnvHas.nil)), h207⟩
          ·
            refine PlanT.toLine ?_
            refine Plan.alloc h200 rfl FFieldInverts.z28 (PIn.cons 1 rfl (PIn.cons 2 rfl PIn.nil)) fun b208 w208 hb208 h208 => ?_
            simp only [rngs, Nat.zero_add, Nat.reduceAdd, List.cons_append, List.nil_append] at h208
            refine Plan.call (vs := [AG [(32, fun q => VU .u8 (y2 q))]]) rfl FFieldInverts.call6 rfl (field_Read_ok  hr179 h208) ?_
            rintro _ w211 ⟨rfl, h211⟩
            refine ⟨_, rfl, .inl ⟨PIn.keep (PIn.cons 2 rfl (PIn.cons 3 rfl PIn.nil)) h211, ?_⟩⟩
            refine Plan.storeP (ps := [(5, fun q => VU .u64 (x_145 q))]) h211 rfl rfl rfl (.cons 1 rfl .nil) ⟨fun _ _ => rfl, trivial⟩ FFieldInverts.sz28 (EffO.keep (PIn.cons 2 rfl (PIn.cons 3 rfl PIn.nil))) fun w212 h212 => ?_
            simp only [List.cons_append, List.nil_append, List.set_cons_zero, List.set_cons_succ] at h212
            refine Plan.storeA (f' := fun q => VU .u64 (x_180 q)) h212 0 rfl rfl rfl rfl (fun _ _ => rfl) FFieldInverts.sz28 rfl fun w213 h213 => ?_
            simp only [List.cons_append, List.nil_append, List.set_cons_zero, List.set_cons_succ] at h213
            refine Plan.nil ?_
            have h214 := St.pickT (C := [_, _, _, _]) h213 [1, 0] (by decide)
            simp only [pick, List.filterMap_cons, List.filterMap_nil, List.getElem?_cons_zero, List.getElem?_cons_succ, List.cons_append, List.nil_append] at h214
            exact ⟨x_145, x_180, hR, b200, b208, (EnvHas.cons rfl (EnvHas.cons rfl EnvHas.nil)), h214⟩
        ·
          refine PlanT.toFork ?_
          refine Plan.alloc h186 rfl FFieldInverts.z28 (PIn.cons 0 rfl (PIn.cons 1 rfl PIn.nil)) fun b215 w215 hb215 h215 => ?_
          simp only [rngs, Nat.zero_add, Nat.reduceAdd, List.cons_append, List.nil_append] at h215
          refine Plan.forked ?_ ?_
          ·
            refine PlanT.toLine ?_
            refine Plan.call (vs := [AG [(32, fun q => VU .u8 (y2 q))]]) rfl FFieldInverts.call6 rfl (field_Read_ok  hr179 h215) ?_
            rintro _ w218 ⟨rfl, h218⟩
            refine ⟨_, rfl, .inl ⟨PIn.keep (PIn.cons 1 rfl (PIn.cons 2 rfl PIn.nil)) h218, ?_⟩⟩
            refine Plan.alloc h218 rfl FFieldInverts.z28 (PIn.cons 1 rfl (PIn.cons 2 rfl PIn.nil)) fun b219 w219 hb219 h219 => ?_
            simp only [rngs, Nat.zero_add, Nat.reduceAdd, List.cons_append, List.nil_append] at h219
            refine Plan.storeP (ps := [(5, fun q => VU .u64 (x_145 q))]) h219 rfl rfl rfl (.cons 0 rfl .nil) ⟨fun _ _ => rfl, trivial⟩ FFieldInverts.sz28 (EffO.keep (PIn.cons 2 rfl (PIn.cons 3 rfl PIn.nil))) fun w220 h220 => ?_
            simp only [List.cons_append, List.nil_append, List.set_cons_zero, List.set_cons_succ] at h220
            refine Plan.storeA (f' := fun q => VU .u64 (x_180 q)) h220 1 rfl rfl rfl rfl (fun _ _ => rfl) FFieldInverts.sz28 rfl fun w221 h221 => ?_
            simp only [List.cons_append, List.nil_append, List.set_cons_zero, List.set_cons_succ] at h221
            refine Plan.nil ?_
            have h222 := St.pickT (C := [_, _, _, _]) h221 [0, 1] (by decide)
            simp only [pick, List.filterMap_cons, List.filterMap_nil, List.getElem?_cons_zero, List.getElem?_cons_succ, List.cons_append, List.nil_append] at h222
            exact ⟨x_145, x_180, hR, b219, b215, (EnvHas.cons rfl (EnvHas.cons rfl EnvHas.nil)), h222⟩
          ·
            refine PlanT.toLine ?_
            refine Plan.alloc h215 rfl FFieldInverts.z28 (PIn.cons 1 rfl (PIn.cons 2 rfl PIn.nil)) fun b223 w223 hb223 h223 => ?_
            simp only [rngs, Nat.zero_add, Nat.reduceAdd, List.cons_append, List.nil_append] at h223
            refine Plan.call (vs := [AG [(32, fun q => VU .u8 (y2 q))]]) rfl FFieldInverts.call6 rfl (field_Read_ok  hr179 h223) ?_
            rintro _ w226 ⟨rfl, h226⟩
            refine ⟨_, rfl, .inl ⟨PIn.keep (PIn.cons 2 rfl (PIn.cons 3 rfl PIn.nil)) h226, ?_⟩⟩
            refine Plan.storeP (ps := [(5, fun q => VU .u64 (x_145 q))]) h226 rfl rfl rfl (.cons 0 rfl .nil) ⟨fun _ _ => rfl, trivial⟩ FFieldInverts.sz28 (EffO.keep (PIn.cons 2 rfl (PIn.cons 3 rfl PIn.nil))) fun w227 h227 => ?_
            simp only [List.cons_append, List.nil_append, List.set_cons_zero, List.set_cons_succ] at h227
            refine Plan.storeA (f' := fun q => VU .u64 (x_180 q)) h227 1 rfl rfl rfl rfl (fun _ _ => rfl) FFieldInverts.sz28 rfl fun w228 h228 => ?_
            simp only [List.cons_append, List.nil_append, List.set_cons_zero, List.set_cons_succ] at h228
            refine Plan.nil ?_
            have h229 := St.pickT (C := [_, _, _, _]) h228 [0, 1] (by decide)
            simp only [pick, List.filterMap_cons, List.filterMap_nil, List.getElem?_cons_zero, List.getElem?_cons_succ, List.cons_append, List.nil_append] at h229
            exact ⟨x_145, x_180, hR, b223, b215, (EnvHas.cons rfl (EnvHas.cons rfl EnvHas.nil)), h229⟩
    ·
      refine PlanT.toFork ?_
      refine Plan.forked ?_ ?_
      ·
        refine PlanT.toFork ?_
        refine Plan.alloc h143 rfl FFieldInverts.z28 (PIn.cons 0 rfl (PIn.cons 1 rfl PIn.nil)) fun b230 w230 hb230 h230 => ?_
        simp only [rngs, Nat.zero_add, Nat.reduceAdd, List.cons_append, List.nil_append] at h230
        refine Plan.forked ?_ ?_
        ·
          refine PlanT.toFork ?_
          refine Plan.call (vs := [AG [(32, fun q => VU .u8 (x_1 q))]]) rfl FFieldInverts.call6 rfl (field_Read_ok  hr144 h230) ?_
          rintro _ w233 ⟨rfl, h233⟩
          refine ⟨_, rfl, .inl ⟨PIn.keep (PIn.cons 1 rfl (PIn.cons 2 rfl PIn.nil)) h233, ?_⟩⟩
          refine Plan.forked ?_ ?_
          ·
            refine PlanT.toLine ?_
            refine Plan.call (vs := [AG [(32, fun q => VU .u8 (y2 q))]]) rfl FFieldInverts.call6 rfl (field_Read_ok  hr179 h233) ?_
            rintro _ w236 ⟨rfl, h236⟩
            refine ⟨_, rfl, .inl ⟨PIn.keep (PIn.cons 1 rfl (PIn.cons 2 rfl PIn.nil)) h236, ?_⟩⟩
            refine Plan.alloc h236 rfl FFieldInverts.z28 (PIn.cons 1 rfl (PIn.cons 2 rfl PIn.nil)) fun b237 w237 hb237 h237 => ?_
            simp only [rngs, Nat.zero_add, Nat.reduceAdd, List.cons_append, List.nil_append] at h237
            refine Plan.storeP (ps := [(5, fun q => VU .u64 (x_145 q))]) h237 rfl rfl rfl (.cons 1 rfl .nil) ⟨fun _ _ => rfl, trivial⟩ FFieldInverts.sz28 (EffO.keep (PIn.cons 2 rfl (PIn.cons 3 rfl PIn.nil))) fun w238 h238 => ?_
            simp only [List.cons_append, List.nil_append, List.set_cons_zero, List.set_cons_succ] at h238
            refine Plan.storeA (f' := fun q => VU .u64 (x_180 q)) h238 0 rfl rfl rfl rfl (fun _ _ => rfl) FFieldInverts.sz28 rfl fun w239 h239 => ?_
            simp only [List.cons_append, List.nil_append, List.set_cons_zero, List.set_cons_succ] at h239
            refine Plan.nil ?_
            have h240 := St.pickT (C := [_, _, _, _]) h239 [1, 0] (by decide)
            simp only [pick, List.filterMap_cons, List.filterMap_nil, List.getElem?_cons_zero, List.getElem?_cons_succ, List.cons_append, List.nil_append] at h240
            exact ⟨x_145, x_180, hR, b230, b237, (EnvHas.cons rfl (EnvHas.cons rfl EnvHas.nil)), h240⟩
          ·
            refine PlanT.toLine ?_
            refine Plan.alloc h233 rfl FFieldInverts.z28 (PIn.cons 1 rfl (PIn.cons 2 rfl PIn.nil)) fun b241 w241 hb241 h241 => ?_
            simp only [rngs, Nat.zero_add, Nat.reduceAdd, List.cons_append, List.nil_append] at h241
            refine Plan.call (vs := [AG [(32, fun q => VU .u8 (y2 q))]]) rfl FFieldInverts.call6 rfl (field_Read_ok  hr179 h241) ?_
            rintro _ w244 ⟨rfl, h244⟩
            refine ⟨_, rfl, .inl ⟨PIn.keep (PIn.cons 2 rfl (PIn.cons 3 rfl PIn.nil)) h244, ?_⟩⟩
            refine Plan.storeP (ps := [(5, fun q => VU .u64 (x_145 q))]) h244 rfl rfl rfl (.cons 1 rfl .nil) ⟨fun _ _ => rfl, trivial⟩ FFieldInverts.sz28 (EffO.keep (PIn.cons 2 rfl (PIn.cons 3 rfl PIn.nil))) fun w245 h245 => ?_
            simp only [List.cons_append, List.nil_append, List.set_cons_zero, List.set_cons_succ] at h245
            refine Plan.storeA (f' := fun q => VU .u64 (x_180 q)) h245 0 rfl rfl rfl rfl (fun _ _ => rfl) FFieldInverts.sz28 rfl fun w246 h246 => ?_
            simp only [List.cons_append, List.nil_append, List.set_cons_zero, List.set_cons_succ] at h246
            refine Plan.nil ?_
            have h247 := St.pickT (C := [_, _, _, _]) h246 [1, 0] (by decide)
            simp only [pick, List.filterMap_cons, List.filterMap_nil, List.getElem?_cons_zero, List.getElem?_cons_succ, List.cons_append, List.nil_append] at h247
            exact ⟨x_145, x_180, hR, b230, b241, (EnvHas.cons rfl (EnvHas.cons rfl EnvHas.nil)), h247⟩
        ·
          refine PlanT.toLine ?_
          refine Plan.alloc h230 rfl FFieldInverts.z28 (PIn.cons 1 rfl (PIn.cons 2 rfl PIn.nil)) fun b248 w248 hb248 h248 => ?_
          simp only [rngs, Nat.zero_add, Nat.reduceAdd, List.cons_append, List.nil_append] at h248
          refine Plan.call (vs := [AG [(32, fun q => VU .u8 (x_1 q))]]) rfl FFieldInverts.call6 rfl (field_Read_ok  hr144 h248) ?_
          rintro _ w251 ⟨rfl, h251⟩
          refine ⟨_, rfl, .inl ⟨PIn.keep (PIn.cons 2 rfl (PIn.cons 3 rfl PIn.nil)) h251, ?_⟩⟩
          refine Plan.call (vs := [AG [(32, fun q => VU .u8 (y2 q))]]) rfl FFieldInverts.call6 rfl (field_Read_ok  hr179 h251) ?_
          rintro _ w254 ⟨rfl, h254⟩
          refine ⟨_, rfl, .inl ⟨PIn.keep (PIn.cons 2 rfl (PIn.cons 3 rfl PIn.nil)) h254, ?_⟩⟩
          refine Plan.storeP (ps := [(5, fun q => VU .u64 (x_145 q))]) h254 rfl rfl rfl (.cons 1 rfl .nil) ⟨fun _ _ => rfl, trivial⟩ FFieldInverts.sz28 (EffO.keep (PIn.cons 2 rfl (PIn.cons 3 rfl PIn.nil))) fun w255 h255 => ?_
          simp only [List.cons_append, List.nil_append, List.set_cons_zero, List.set_cons_succ] at h255
          refine Plan.storeA (f' := fun q => VU .u64 (x_180 q)) h255 0 rfl rfl rfl rfl (fun _ _ => rfl) FFieldInverts.sz28 rfl fun w256 h256 => ?_
          simp only [List.cons_append, List.nil_append, List.set_cons_zero, List.set_cons_succ] at h256
          refine Plan.nil ?_
          have h257 := St.pickT (C := [_, _, _, _]) h256 [1, 0] (by decide)
          simp only [pick, List.filterMap_cons, List.filterMap_nil, List.getElem?_cons_zero, List.getElem?_cons_succ, List.cons_append, List.nil_append] at h257
          exact ⟨x_145, x_180, hR, b230, b248, (EnvHas.cons rfl (EnvHas.cons rfl EnvHas.nil)), h257⟩
      ·
        refine PlanT.toFork ?_
        refine Plan.alloc h143 rfl FFieldInverts.z28 (PIn.cons 0 rfl (PIn.cons 1 rfl PIn.nil)) fun b258 w258 hb258 h258 => ?_
        simp only [rngs, Nat.zero_add, Nat.reduceAdd, List.cons_append, List.nil_append] at h258
        refine Plan.forked ?_ ?_
        ·
          refine PlanT.toFork ?_
          refine Plan.call (vs := [AG [(32, fun q => VU .u8 (x_1 q))]]) rfl FFieldInverts.call6 rfl (field_Read_ok  hr144 h258) ?_
          rintro _ w261 ⟨rfl, h261⟩
          refine ⟨_, rfl, .inl ⟨PIn.keep (PIn.cons 1 rfl (PIn.cons 2 rfl PIn.nil)) h261, ?_⟩⟩
          refine Plan.forked ?_ ?_
          ·
            refine PlanT.toLine ?_
            refine Plan.call (vs := [AG [(32, fun q => VU .u8 (y2 q))]]) rfl FFieldInverts.call6 rfl (field_Read_ok  hr179 h261) ?_
            rintro _ w264 ⟨rfl, h264⟩
            refine ⟨_, rfl, .inl ⟨PIn.keep (PIn.cons 1 rfl (PIn.cons 2 rfl PIn.nil)) h264, ?_⟩⟩
            refine Plan.alloc h264 rfl FFieldInverts.z28 (PIn.cons 1 rfl (PIn.cons 2 rfl PIn.nil)) fun b265 w265 hb265 h265 => ?_
            simp only [rngs, Nat.zero_add, Nat.reduceAdd, List.cons_append, List.nil_append] at h265
            refine Plan.storeP (ps := [(5, fun q => VU .u64 (x_145 q))]) h265 rfl rfl rfl (.cons 0 rfl .nil) ⟨fun _ _ => rfl, trivial⟩ FFieldInverts.sz28 (EffO.keep (PIn.cons 2 rfl (PIn.cons 3 rfl PIn.nil))) fun w266 h266 => ?_
            simp only [List.cons_append, List.nil_append, List.set_cons_zero, List.set_cons_succ] at h266
            refine Plan.storeA (f' := fun q => VU .u64 (x_180 q)) h266 1 rfl rfl rfl rfl (fun _ _ => rfl) FFieldInverts.sz28 rfl fun w267 h267 => ?_
            simp only [List.cons_append, List.nil_append, List.set_cons_zero, List.set_cons_succ] at h267
            refine Plan.nil ?_
            have h268 := St.pickT (C := [_, _, _, _]) h267 [0, 1] (by decide)
            simp only [pick, List.filterMap_cons, List.filterMap_nil, List.getElem?_cons_zero, List.getElem?_cons_succ, List.cons_append, List.nil_append] at h268
            exact ⟨x_145, x_180, hR, b265, b258, (EnvHas.cons rfl (EnvHas.cons rfl EnvHas.nil)), h268⟩
          ·
            refine PlanT.toLine ?_
            refine Plan.alloc h261 rfl FFieldInverts.z28 (PIn.cons 1 rfl (PIn.cons 2 rfl PIn.nil)) fun b269 w269 hb269 h269 => ?_
            simp only [rngs, Nat.zero_add, Nat.reduceAdd, List.cons_append, List.nil_append] at h269
            refine Plan.call (vs := [AG [(32, fun q => VU .u8 (y2 q))]]) rfl FFieldInverts.call6 rfl (field_Read_ok  hr179 h269) ?_
            rintro _ w272 ⟨rfl, h272⟩
            refine ⟨_, rfl, .inl ⟨PIn.keep (PIn.cons 2 rfl (PIn.cons 3 rfl PIn.nil)) h272, ?_⟩⟩
            refine Plan.storeP (ps := [(5, fun q => VU .u64 (x_145 q))]) h272 rfl rfl rfl (.cons 0 rfl .nil) ⟨fun _ _ => rfl, trivial⟩ FFieldInverts.sz28 (EffO.keep (PIn.cons 2 rfl (PIn.cons 3 rfl PIn.nil))) fun w273 h273 => ?_
            simp only [List.cons_append, List.nil_append, List.set_cons_zero, List.set_cons_succ] at h273
            refine Plan.storeA (f' := fun q => VU .u64 (x_180 q)) h273 1 rfl rfl rfl rfl (fun _ _ => rfl) FFieldInverts.sz28 rfl fun w274 h274 => ?_
            simp only [List.cons_append, List.nil_append, List.set_cons_zero, List.set_cons_succ] at h274
            refine Plan.nil ?_
            have h275 := St.pickT (C := [_, _, _, _]) h274 [0, 1] (by decide)
            simp only [pick, List.filterMap_cons, List.filterMap_nil, List.getElem?_cons_zero, List.getElem?_cons_succ, List.cons_append, List.nil_append] at h275
            exact ⟨x_145, x_180, hR, b269, b258, (EnvHas.cons rfl (EnvHas.cons rfl EnvHas.nil)), h275⟩
        ·
          refine PlanT.toLine ?_
          refine Plan.alloc h258 rfl FFieldInverts.z28 (PIn.cons 1 rfl (PIn.cons 2 rfl PIn.nil)) fun b276 w276 hb276 h276 => ?_
          simp only [rngs, Nat.zero_add, Nat.reduceAdd, List.cons_append, List.nil_append] at h276
          refine Plan.call (vs := [AG [(32, fun q => VU .u8 (x_1 q))]]) rfl FFieldInverts.call6 rfl (field_Read_ok  hr144 h276) ?_
          rintro _ w279 ⟨rfl, h279⟩
          refine ⟨_, rfl, .inl ⟨PIn.keep (PIn.cons 2 rfl (PIn.cons 3 rfl PIn.nil)) h279, ?_⟩⟩
          refine Plan.call (vs := [AG [(32, fun q => VU .u8 (y2 q))]]) rfl FFieldInverts.call6 rfl (field_Read_ok  hr179 h279) ?_
          rintro _ w282 ⟨rfl, h282⟩
          refine ⟨_, rfl, .inl ⟨PIn.keep (PIn.cons 2 rfl (PIn.cons 3 rfl PIn.nil)) h282, ?_⟩⟩
          refine Plan.storeP (ps := [(5, fun q => VU .u64 (x_145 q))]) h282 rfl rfl rfl (.cons 0 rfl .nil) ⟨fun _ _ => rfl, trivial⟩ FFieldInverts.sz28 (EffO.keep (PIn.cons 2 rfl (PIn.cons 3 rfl PIn.nil))) fun w283 h283 => ?_
          simp only [List.cons_append, List.nil_append, List.set_cons_zero, List.set_cons_succ] at h283
          refine Plan.storeA (f' := fun q => VU .u64 (x_180 q)) h283 1 rfl rfl rfl rfl (fun _ _ => rfl) FFieldInverts.sz28 rfl fun w284 h284 => ?_
          simp only [List.cons_append, List.nil_append, List.set_cons_zero, List.set_cons_succ] at h284
          refine Plan.nil ?_
          have h285 := St.pickT (C := [_, _, _, _]) h284 [0, 1] (by decide)
          simp only [pick, List.filterMap_cons, List.filterMap_nil, List.getElem?_cons_zero, List.getElem?_cons_succ, List.cons_append, List.nil_append] at h285
          exact ⟨x_145, x_180, hR, b276, b258, (EnvHas.cons rfl (EnvHas.cons rfl EnvHas.nil)), h285⟩
  ·
    rintro ev286 wl286 ⟨y_m139, y_m141, ⟨hy286_0, hy286_1⟩, b138, b140, he286, h286⟩
    subst hy286_0
    subst hy286_1
    obtain ⟨ev286, rfl⟩ := he286.open
    replace hR := hR0142
    refine hK6 _ _ ?_; clear hK6
    refine W.seq_k fun K287 hK287 => ?_
    refine W.regionT [(0, true), (1, false), (2, false), (3, false), (4, false), (5, false)] (by kernel_rfl) ?_
    refine Plan.buildZ FFieldInverts.row28 FFieldInverts.z28 rfl ?_
    obtain ⟨x_289, hr288, hR⟩ := hR
    refine Plan.call (vs := [VU .u32 (1#32)]) rfl FFieldInverts.call11 rfl (field_Small_ok  hr288 h286) ?_
    rintro _ w290 ⟨rfl, h290⟩
    refine ⟨_, rfl, .inl ⟨PIn.keep PIn.nil h290, ?_⟩⟩
    refine Plan.alloc h290 rfl FFieldInverts.z28 PIn.nil fun b291 w291 hb291 h291 => ?_
    simp only [rngs, Nat.zero_add, Nat.reduceAdd, List.cons_append, List.nil_append] at h291
    refine Plan.alloc h291 rfl FFieldInverts.z28 PIn.nil fun b292 w292 hb292 h292 => ?_
    simp only [rngs, Nat.zero_add, Nat.reduceAdd, List.cons_append, List.nil_append] at h292
    refine Plan.storeA (f' := fun q => VU .u64 ((fun _ => 0#64) q)) h292 1 rfl rfl rfl rfl (fun _ _ => rfl) FFieldInverts.sz28 rfl fun w293 h293 => ?_
    simp only [List.cons_append, List.nil_append, List.set_cons_zero, List.set_cons_succ] at h293
    refine Plan.storeA (f' := fun q => VU .u64 (x_289 q)) h293 0 rfl rfl rfl rfl (fun _ _ => rfl) FFieldInverts.sz28 rfl fun w294 h294 => ?_
    simp only [List.cons_append, List.nil_append, List.set_cons_zero, List.set_cons_succ] at h294
    refine Plan.nil ?_
    refine hK287 _ _ ?_; clear hK287
    refine W.seq_k fun K295 hK295 => ?_
    refine W.regionT [(0, true), (1, false), (2, false), (3, false)] (by kernel_rfl) ?_
    refine Plan.loadA1 h294 2 rfl rfl rfl FFieldInverts.agg28 ?_
    obtain ⟨x_297, hr296, hR⟩ := hR
    refine Plan.call (vs := [AG [(5, fun q => VU .u64 (m139 q))]]) rfl FFieldInverts.call15 rfl (field_Elem_Inv_ok  hr296 h294) ?_
    rintro _ w298 ⟨rfl, h298⟩
    refine ⟨_, rfl, .inr ⟨rfl, ?_⟩⟩
    refine Plan.alloc h298 rfl FFieldInverts.z28 PIn.nil fun b299 w299 hb299 h299 => ?_
    simp only [rngs, Nat.zero_add, Nat.reduceAdd, List.cons_append, List.nil_append] at h299
    refine Plan.storeA (f' := fun q => VU .u64 (x_297 q)) h299 0 rfl rfl rfl rfl (fun _ _ => rfl) FFieldInverts.sz28 rfl fun w300 h300 => ?_
    simp only [List.cons_append, List.nil_append, List.set_cons_zero, List.set_cons_succ] at h300
    refine Plan.nil ?_
    refine hK295 _ _ ?_; clear hK295
    refine W.seq_k fun K301 hK301 => ?_
    refine W.seq_k fun K302 hK302 => ?_
    refine W.regionT [(0, true), (1, true), (2, false)] (by kernel_rfl) ?_
    refine Plan.loadA1 h300 3 rfl rfl rfl FFieldInverts.agg28 ?_
    refine Plan.loadA1 h300 2 rfl rfl rfl FFieldInverts.agg28 ?_
    obtain ⟨x_304, hr303, hR⟩ := hR
    refine Plan.call (vs := [AG [(5, fun q => VU .u64 (m139 q))], AG [(5, fun q => VU .u64 ((fun _ => 0#64) q))]]) rfl FFieldInverts.call9 rfl (field_Elem_Equal_ok  hr303 h300) ?_
    rintro _ w305 ⟨rfl, h305⟩
    refine ⟨_, rfl, .inr ⟨rfl, ?_⟩⟩
    refine Plan.nil ?_
    refine hK302 _ _ ?_; clear hK302
    by_cases hc306 : x_304 = true
    ·
      replace hR := ifT hR hc306
      refine W.condT (congrArg Value.bool hc306) ?_
      refine W.seq_k fun K307 hK307 => ?_
      refine W.regionD FFieldInverts.mixed [(0, true), (1, true), (2, false), (3, true), (4, true), (7, true), (5, false), (6, false), (8, false), (9, true), (10, true), (11, true), (12, true), (14, true), (13, false), (15, false), (16, true), (17, true)] (by kernel_rfl) ?_
      have h308 := h305.drew
      refine Plan.loadA1 h308 0 rfl rfl rfl FFieldInverts.agg28 ?_
      refine Plan.loadA1 h308 2 rfl rfl rfl FFieldInverts.agg28 ?_
      obtain ⟨x_310, hr309, hR⟩ := hR
      refine Plan.call (vs := [AG [(5, fun q => VU .u64 (x_297 q))], AG [(5, fun q => VU .u64 ((fun _ => 0#64) q))]]) rfl FFieldInverts.call9 rfl (field_Elem_Equal_ok  hr309 h308) ?_
      rintro _ w311 ⟨rfl, h311⟩
      refine ⟨_, rfl, .inr ⟨rfl, ?_⟩⟩
      by_cases hc312 : x_310 = true
      ·
        replace hR := ifT hR hc312
        obtain rfl : x_310 = true := hc312
        refine Plan.move_bool rfl rfl ?_
        refine Plan.loadA1 h311 3 rfl rfl rfl FFieldInverts.agg28 ?_
        refine Plan.loadA1 h311 2 rfl rfl rfl FFieldInverts.agg28 ?_
        obtain ⟨x_314, hr313, hR⟩ := hR
        refine Plan.call (vs := [VU .u8 (1#8)]) rfl FFieldInverts.call10 rfl (lethelaw06_prime_ok  hr313 h311) ?_
        rintro _ w315 ⟨rfl, h315⟩
        refine ⟨_, rfl, .inl ⟨PIn.keep (PIn.cons 2 rfl (PIn.cons 3 rfl PIn.nil)) h315, ?_⟩⟩
        obtain ⟨x_317, hr316, hR⟩ := hR
        refine Plan.call (vs := [AG [(5, fun q => VU .u64 (m139 q))], AG [(32, fun q => VU .u8 (x_314 q))]]) rfl FFieldInverts.call14 rfl (field_Elem_Pow_ok  hr316 h315) ?_
        rintro _ w318 ⟨rfl, h318⟩
        refine ⟨_, rfl, .inl ⟨PIn.keep (PIn.cons 2 rfl (PIn.cons 3 rfl PIn.nil)) h318, ?_⟩⟩
        obtain ⟨x_320, hr319, hR⟩ := hR
        refine Plan.call (vs := [AG [(5, fun q => VU .u64 (x_317 q))], AG [(5, fun q => VU .u64 ((fun _ => 0#64) q))]]) rfl FFieldInverts.call9 rfl (field_Elem_Equal_ok  hr319 h318) ?_
        rintro _ w321 ⟨rfl, h321⟩
        refine ⟨_, rfl, .inl ⟨PIn.keep (PIn.cons 2 rfl (PIn.cons 3 rfl PIn.nil)) h321, ?_⟩⟩
        by_cases hc322 : x_320 = true
        ·
          replace hR := ifT hR hc322
          obtain rfl : x_320 = true := hc322
          refine Plan.pickTb rfl rfl rfl ?_
          refine Plan.move_bool rfl rfl ?_
          refine Plan.loadA1 h321 3 rfl rfl rfl FFieldInverts.agg28 ?_
          refine Plan.buildZ FFieldInverts.row23 FFieldInverts.z23 rfl ?_
          refine Plan.loadA1 h321 1 rfl rfl rfl FFieldInverts.agg28 ?_
          obtain ⟨x_324, hr323, hR⟩ := hR
          refine Plan.call (vs := [AG [(5, fun q => VU .u64 (m139 q))], AG [(32, fun q => VU .u8 ((fun _ => 0#8) q))]]) rfl FFieldInverts.call14 rfl (field_Elem_Pow_ok  hr323 h321) ?_
          rintro _ w325 ⟨rfl, h325⟩
          refine ⟨_, rfl, .inl ⟨PIn.keep (PIn.cons 1 rfl (PIn.cons 3 rfl (PIn.cons 2 rfl (PIn.cons 3 rfl PIn.nil)))) h325, ?_⟩⟩
          obtain ⟨x_327, hr326, hR⟩ := hR
          refine Plan.call (vs := [AG [(5, fun q => VU .u64 (x_324 q))], AG [(5, fun q => VU .u64 (x_289 q))]]) rfl FFieldInverts.call9 rfl (field_Elem_Equal_ok  hr326 h325) ?_
          rintro _ w328 ⟨rfl, h328⟩
          refine ⟨_, rfl, .inl ⟨PIn.keep (PIn.cons 1 rfl (PIn.cons 3 rfl (PIn.cons 2 rfl (PIn.cons 3 rfl PIn.nil)))) h328, ?_⟩⟩
          refine Plan.pickTb rfl rfl rfl ?_
          refine Plan.assign_bool rfl rfl ?_
          refine Plan.nil ?_
          refine hK307 _ _ ?_; clear hK307
          refine W.ret (thenR_ret (finR_ret ?_))
          have h329 := St.pickT (C := [_, _, _, _, _]) h328 [] (by decide)
          simp only [pick, List.filterMap_cons, List.filterMap_nil, List.getElem?_cons_zero, List.getElem?_cons_succ, List.cons_append, List.nil_append] at h329
          subst r
          refine RetOk.mk (.tmp_bool rfl .nil) ?_
          exact ⟨rfl, h329⟩
        ·
          replace hR := ifF hR hc322
          obtain rfl : x_320 = false := Bool.eq_false_iff.2 hc322
          refine Plan.pickTb rfl rfl rfl ?_
          refine Plan.move_bool rfl rfl ?_
          refine Plan.passed rfl ?_
          refine Plan.passed rfl ?_
          refine Plan.passed rfl ?_
          refine Plan.passed rfl ?_
          refine Plan.passed rfl ?_
          refine Plan.pickFb rfl rfl rfl ?_
          refine Plan.assign_bool rfl rfl ?_
          refine Plan.nil ?_
          refine hK307 _ _ ?_; clear hK307
          refine W.ret (thenR_ret (finR_ret ?_))
          have h330 := St.pickT (C := [_, _, _, _, _]) h321 [] (by decide)
          simp only [pick, List.filterMap_cons, List.filterMap_nil, List.getElem?_cons_zero, List.getElem?_cons_succ, List.cons_append, List.nil_append] at h330
          subst r
          refine RetOk.mk (.tmp_bool rfl .nil) ?_
          exact ⟨rfl, h330⟩
      ·
        replace hR := ifF hR hc312
        obtain rfl : x_310 = false := Bool.eq_false_iff.2 hc312
        refine Plan.move_bool rfl rfl ?_
        refine Plan.passed rfl ?_
        refine Plan.passed rfl ?_
        refine Plan.passed rfl ?_
        refine Plan.passed rfl ?_
        refine Plan.passed rfl ?_
        refine Plan.pickFb rfl rfl rfl ?_
        refine Plan.move_bool rfl rfl ?_
        refine Plan.passed rfl ?_
        refine Plan.passed rfl ?_
        refine Plan.passed rfl ?_
        refine Plan.passed rfl ?_
        refine Plan.passed rfl ?_
        refine Plan.pickFb rfl rfl rfl ?_
        refine Plan.assign_bool rfl rfl ?_
        refine Plan.nil ?_
        refine hK307 _ _ ?_; clear hK307
        refine W.ret (thenR_ret (finR_ret ?_))
        have h331 := St.pickT (C := [_, _, _, _, _]) h311 [] (by decide)
        simp only [pick, List.filterMap_cons, List.filterMap_nil, List.getElem?_cons_zero, List.getElem?_cons_succ, List.cons_append, List.nil_append] at h331
        subst r
        refine RetOk.mk (.tmp_bool rfl .nil) ?_
        exact ⟨rfl, h331⟩
    ·
      replace hR := ifF hR hc306
      refine W.condF (congrArg Value.bool (Bool.eq_false_iff.2 hc306)) ?_
      refine W.skip ?_
      refine hK301 _ _ ?_; clear hK301
      refine W.seq_k fun K332 hK332 => ?_
      refine W.regionD FFieldInverts.mixed [(0, true), (1, true), (3, true), (2, false), (4, false), (5, true), (6, true), (8, true), (7, false), (9, false), (10, true), (11, true), (12, true), (15, true), (13, false), (14, false), (16, false), (17, true), (18, true), (19, true), (22, true), (20, false), (21, false), (23, false), (24, true), (25, true), (26, true), (27, true), (30, true), (31, true), (28, false), (29, false), (32, false), (33, false), (34, false), (35, true), (36, true)] (by kernel_rfl) ?_
      have h333 := h305.drew
      refine Plan.loadA1 h333 3 rfl rfl rfl FFieldInverts.agg28 ?_
      refine Plan.loadA1 h333 0 rfl rfl rfl FFieldInverts.agg28 ?_
      refine Plan.loadA1 h333 1 rfl rfl rfl FFieldInverts.agg28 ?_
      obtain ⟨x_335, hr334, hR⟩ := hR
      refine Plan.call (vs := [AG [(5, fun q => VU .u64 (m139 q))], AG [(5, fun q => VU .u64 (x_297 q))]]) rfl FFieldInverts.call13 rfl (field_Elem_Mul_ok  hr334 h333) ?_
      rintro _ w336 ⟨rfl, h336⟩
      refine ⟨_, rfl, .inl ⟨PIn.keep (PIn.cons 1 rfl (PIn.cons 0 rfl (PIn.cons 3 rfl PIn.nil))) h336, ?_⟩⟩
      obtain ⟨x_338, hr337, hR⟩ := hR
      refine Plan.call (vs := [AG [(5, fun q => VU .u64 (x_335 q))], AG [(5, fun q => VU .u64 (x_289 q))]]) rfl FFieldInverts.call9 rfl (field_Elem_Equal_ok  hr337 h336) ?_
      rintro _ w339 ⟨rfl, h339⟩
      refine ⟨_, rfl, .inl ⟨PIn.keep (PIn.cons 1 rfl (PIn.cons 0 rfl (PIn.cons 3 rfl PIn.nil))) h339, ?_⟩⟩
      by_cases hc340 : x_338 = true
      ·
        replace hR := ifT hR hc340
        obtain rfl : x_338 = true := hc340
        refine Plan.move_bool rfl rfl ?_
        refine Plan.loadA1 h339 0 rfl rfl rfl FFieldInverts.agg28 ?_
        refine Plan.loadA1 h339 3 rfl rfl rfl FFieldInverts.agg28 ?_
        obtain ⟨x_342, hr341, hR⟩ := hR
        refine Plan.call (vs := [AG [(5, fun q => VU .u64 (x_297 q))]]) rfl FFieldInverts.call15 rfl (field_Elem_Inv_ok  hr341 h339) ?_
        rintro _ w343 ⟨rfl, h343⟩
        refine ⟨_, rfl, .inl ⟨PIn.keep (PIn.cons 3 rfl (PIn.cons 0 rfl (PIn.cons 1 rfl (PIn.cons 0 rfl (PIn.cons 3 rfl PIn.nil))))) h343, ?_⟩⟩
        obtain ⟨x_345, hr344, hR⟩ := hR
        refine Plan.call (vs := [AG [(5, fun q => VU .u64 (x_342 q))], AG [(5, fun q => VU .u64 (m139 q))]]) rfl FFieldInverts.call9 rfl (field_Elem_Equal_ok  hr344 h343) ?_
        rintro _ w346 ⟨rfl, h346⟩
        refine ⟨_, rfl, .inl ⟨PIn.keep (PIn.cons 3 rfl (PIn.cons 0 rfl (PIn.cons 1 rfl (PIn.cons 0 rfl (PIn.cons 3 rfl PIn.nil))))) h346, ?_⟩⟩
        by_cases hc347 : x_345 = true
        ·
          replace hR := ifT hR hc347
          obtain rfl : x_345 = true := hc347
          refine Plan.pickTb rfl rfl rfl ?_
          refine Plan.move_bool rfl rfl ?_
          refine Plan.loadA1 h346 3 rfl rfl rfl FFieldInverts.agg28 ?_
          refine Plan.loadA1 h346 1 rfl rfl rfl FFieldInverts.agg28 ?_
          obtain ⟨x_349, hr348, hR⟩ := hR
          refine Plan.call (vs := [VU .u8 (1#8)]) rfl FFieldInverts.call10 rfl (lethelaw06_prime_ok  hr348 h346) ?_
          rintro _ w350 ⟨rfl, h350⟩
          refine ⟨_, rfl, .inl ⟨PIn.keep (PIn.cons 1 rfl (PIn.cons 3 rfl (PIn.cons 3 rfl (PIn.cons 0 rfl (PIn.cons 1 rfl (PIn.cons 0 rfl (PIn.cons 3 rfl PIn.nil))))))) h350, ?_⟩⟩
          obtain ⟨x_352, hr351, hR⟩ := hR
          refine Plan.call (vs := [AG [(5, fun q => VU .u64 (m139 q))], AG [(32, fun q => VU .u8 (x_349 q))]]) rfl FFieldInverts.call14 rfl (field_Elem_Pow_ok  hr351 h350) ?_
          rintro _ w353 ⟨rfl, h353⟩
          refine ⟨_, rfl, .inl ⟨PIn.keep (PIn.cons 1 rfl (PIn.cons 3 rfl (PIn.cons 3 rfl (PIn.cons 0 rfl (PIn.cons 1 rfl (PIn.cons 0 rfl (PIn.cons 3 rfl PIn.nil))))))) h353, ?_⟩⟩
          obtain ⟨x_355, hr354, hR⟩ := hR
          refine Plan.call (vs := [AG [(5, fun q => VU .u64 (x_352 q))], AG [(5, fun q => VU .u64 (x_289 q))]]) rfl FFieldInverts.call9 rfl (field_Elem_Equal_ok  hr354 h353) ?_
          rintro _ w356 ⟨rfl, h356⟩
          refine ⟨_, rfl, .inl ⟨PIn.keep (PIn.cons 1 rfl (PIn.cons 3 rfl (PIn.cons 3 rfl (PIn.cons 0 rfl (PIn.cons 1 rfl (PIn.cons 0 rfl (PIn.cons 3 rfl PIn.nil))))))) h356, ?_⟩⟩
          by_cases hc357 : x_355 = true
          ·
            replace hR := ifT hR hc357
            obtain rfl : x_355 = true := hc357
            refine Plan.pickTb rfl rfl rfl ?_
            refine Plan.move_bool rfl rfl ?_
            refine Plan.loadA1 h356 3 rfl rfl rfl FFieldInverts.agg28 ?_
            refine Plan.loadA1 h356 3 rfl rfl rfl FFieldInverts.agg28 ?_
            obtain ⟨x_359, hr358, hR⟩ := hR
            refine Plan.call (vs := [VU .u8 (0#8)]) rfl FFieldInverts.call10 rfl (lethelaw06_prime_ok  hr358 h356) ?_
            rintro _ w360 ⟨rfl, h360⟩
            refine ⟨_, rfl, .inl ⟨PIn.keep (PIn.cons 3 rfl (PIn.cons 3 rfl (PIn.cons 1 rfl (PIn.cons 3 rfl (PIn.cons 3 rfl (PIn.cons 0 rfl (PIn.cons 1 rfl (PIn.cons 0 rfl (PIn.cons 3 rfl PIn.nil))))))))) h360, ?_⟩⟩
            obtain ⟨x_362, hr361, hR⟩ := hR
            refine Plan.call (vs := [AG [(5, fun q => VU .u64 (m139 q))], AG [(32, fun q => VU .u8 (x_359 q))]]) rfl FFieldInverts.call14 rfl (field_Elem_Pow_ok  hr361 h360) ?_
            rintro _ w363 ⟨rfl, h363⟩
            refine ⟨_, rfl, .inl ⟨PIn.keep (PIn.cons 3 rfl (PIn.cons 3 rfl (PIn.cons 1 rfl (PIn.cons 3 rfl (PIn.cons 3 rfl (PIn.cons 0 rfl (PIn.cons 1 rfl (PIn.cons 0 rfl (PIn.cons 3 rfl PIn.nil))))))))) h363, ?_⟩⟩
            obtain ⟨x_365, hr364, hR⟩ := hR
            refine Plan.call (vs := [AG [(5, fun q => VU .u64 (x_362 q))], AG [(5, fun q => VU .u64 (m139 q))]]) rfl FFieldInverts.call9 rfl (field_Elem_Equal_ok  hr364 h363) ?_
            rintro _ w366 ⟨rfl, h366⟩
            refine ⟨_, rfl, .inl ⟨PIn.keep (PIn.cons 3 rfl (PIn.cons 3 rfl (PIn.cons 1 rfl (PIn.cons 3 rfl (PIn.cons 3 rfl (PIn.cons 0 rfl (PIn.cons 1 rfl (PIn.cons 0 rfl (PIn.cons 3 rfl PIn.nil))))))))) h366, ?_⟩⟩
            by_cases hc367 : x_365 = true
            ·
              replace hR := ifT hR hc367
              obtain rfl : x_365 = true := hc367
              refine Plan.pickTb rfl rfl rfl ?_
              refine Plan.move_bool rfl rfl ?_
              refine Plan.loadA1 h366 3 rfl rfl rfl FFieldInverts.agg28 ?_
              refine Plan.loadA1 h366 4 rfl rfl rfl FFieldInverts.agg28 ?_
              refine Plan.loadA1 h366 0 rfl rfl rfl FFieldInverts.agg28 ?_
              refine Plan.loadA1 h366 4 rfl rfl rfl FFieldInverts.agg28 ?_
              obtain ⟨x_369, hr368, hR⟩ := hR
              refine Plan.call (vs := [AG [(5, fun q => VU .u64 (m139 q))], AG [(5, fun q => VU .u64 (m141 q))]]) rfl FFieldInverts.call13 rfl (field_Elem_Mul_ok  hr368 h366) ?_
              rintro _ w370 ⟨rfl, h370⟩
              refine ⟨_, rfl, .inl ⟨PIn.keep (PIn.cons 4 rfl (PIn.cons 0 rfl (PIn.cons 4 rfl (PIn.cons 3 rfl (PIn.cons 3 rfl (PIn.cons 3 rfl (PIn.cons 1 rfl (PIn.cons 3 rfl (PIn.cons 3 rfl (PIn.cons 0 rfl (PIn.cons 1 rfl (PIn.cons 0 rfl (PIn.cons 3 rfl PIn.nil))))))))))))) h370, ?_⟩⟩
              obtain ⟨x_372, hr371, hR⟩ := hR
              refine Plan.call (vs := [AG [(5, fun q => VU .u64 (x_369 q))]]) rfl FFieldInverts.call15 rfl (field_Elem_Inv_ok  hr371 h370) ?_
              rintro _ w373 ⟨rfl, h373⟩
              refine ⟨_, rfl, .inl ⟨PIn.keep (PIn.cons 4 rfl (PIn.cons 0 rfl (PIn.cons 4 rfl (PIn.cons 3 rfl (PIn.cons 3 rfl (PIn.cons 3 rfl (PIn.cons 1 rfl (PIn.cons 3 rfl (PIn.cons 3 rfl (PIn.cons 0 rfl (PIn.cons 1 rfl (PIn.cons 0 rfl (PIn.cons 3 rfl PIn.nil))))))))))))) h373, ?_⟩⟩
              obtain ⟨x_375, hr374, hR⟩ := hR
              refine Plan.call (vs := [AG [(5, fun q => VU .u64 (m141 q))]]) rfl FFieldInverts.call15 rfl (field_Elem_Inv_ok  hr374 h373) ?_
              rintro _ w376 ⟨rfl, h376⟩
              refine ⟨_, rfl, .inl ⟨PIn.keep (PIn.cons 4 rfl (PIn.cons 0 rfl (PIn.cons 4 rfl (PIn.cons 3 rfl (PIn.cons 3 rfl (PIn.cons 3 rfl (PIn.cons 1 rfl (PIn.cons 3 rfl (PIn.cons 3 rfl (PIn.cons 0 rfl (PIn.cons 1 rfl (PIn.cons 0 rfl (PIn.cons 3 rfl PIn.nil))))))))))))) h376, ?_⟩⟩
              obtain ⟨x_378, hr377, hR⟩ := hR
              refine Plan.call (vs := [AG [(5, fun q => VU .u64 (x_297 q))], AG [(5, fun q => VU .u64 (x_375 q))]]) rfl FFieldInverts.call13 rfl (field_Elem_Mul_ok  hr377 h376) ?_
              rintro _ w379 ⟨rfl, h379⟩
              refine ⟨_, rfl, .inl ⟨PIn.keep (PIn.cons 4 rfl (PIn.cons 0 rfl (PIn.cons 4 rfl (PIn.cons 3 rfl (PIn.cons 3 rfl (PIn.cons 3 rfl (PIn.cons 1 rfl (PIn.cons 3 rfl (PIn.cons 3 rfl (PIn.cons 0 rfl (PIn.cons 1 rfl (PIn.cons 0 rfl (PIn.cons 3 rfl PIn.nil))))))))))))) h379, ?_⟩⟩
              obtain ⟨x_381, hr380, hR⟩ := hR
              refine Plan.call (vs := [AG [(5, fun q => VU .u64 (x_372 q))], AG [(5, fun q => VU .u64 (x_378 q))]]) rfl FFieldInverts.call9 rfl (field_Elem_Equal_ok  hr380 h379) ?_
              rintro _ w382 ⟨rfl, h382⟩
              refine ⟨_, rfl, .inl ⟨PIn.keep (PIn.cons 4 rfl (PIn.cons 0 rfl (PIn.cons 4 rfl (PIn.cons 3 rfl (PIn.cons 3 rfl (PIn.cons 3 rfl (PIn.cons 1 rfl (PIn.cons 3 rfl (PIn.cons 3 rfl (PIn.cons 0 rfl (PIn.cons 1 rfl (PIn.cons 0 rfl (PIn.cons 3 rfl PIn.nil))))))))))))) h382, ?_⟩⟩
              refine Plan.pickTb rfl rfl rfl ?_
              refine Plan.assign_bool rfl rfl ?_
              refine Plan.nil ?_
              refine hK332 _ _ ?_; clear hK332
              refine W.ret (finR_ret ?_)
              have h383 := St.pickT (C := [_, _, _, _, _]) h382 [] (by decide)
              simp only [pick, List.filterMap_cons, List.filterMap_nil, List.getElem?_cons_zero, List.getElem?_cons_succ, List.cons_append, List.nil_append] at h383
              subst r
              refine RetOk.mk (.tmp_bool rfl .nil) ?_
              exact ⟨rfl, h383⟩
            ·
              replace hR := ifF hR hc367
              obtain rfl : x_365 = false := Bool.eq_false_iff.2 hc367
              refine Plan.pickTb rfl rfl rfl ?_
              refine Plan.move_bool rfl rfl ?_
              refine Plan.passed rfl ?_
              refine Plan.passed rfl ?_
              refine Plan.passed rfl ?_
              refine Plan.passed rfl ?_
              refine Plan.passed rfl ?_
              refine Plan.passed rfl ?_
              refine Plan.passed rfl ?_
              refine Plan.passed rfl ?_
              refine Plan.passed rfl ?_
              refine Plan.pickFb rfl rfl rfl ?_
              refine Plan.assign_bool rfl rfl ?_
              refine Plan.nil ?_
              refine hK332 _ _ ?_; clear hK332
              refine W.ret (finR_ret ?_)
              have h384 := St.pickT (C := [_, _, _, _, _]) h366 [] (by decide)
              simp only [pick, List.filterMap_cons, List.filterMap_nil, List.getElem?_cons_zero, List.getElem?_cons_succ, List.cons_append, List.nil_append] at h384
              subst r
              refine RetOk.mk (.tmp_bool rfl .nil) ?_
              exact ⟨rfl, h384⟩
          ·
            replace hR := ifF hR hc357
            obtain rfl : x_355 = false := Bool.eq_false_iff.2 hc357
            refine Plan.pickTb rfl rfl rfl ?_
            refine Plan.move_bool rfl rfl ?_
            refine Plan.passed rfl ?_
            refine Plan.passed rfl ?_
            refine Plan.passed rfl ?_
            refine Plan.passed rfl ?_
            refine Plan.passed rfl ?_
            refine Plan.pickFb rfl rfl rfl ?_
            refine Plan.move_bool rfl rfl ?_
            refine Plan.passed rfl ?_
            refine Plan.passed rfl ?_
            refine Plan.passed rfl ?_
            refine Plan.passed rfl ?_
            refine Plan.passed rfl ?_
            refine Plan.passed rfl ?_
            refine Plan.passed rfl ?_
            refine Plan.passed rfl ?_
            refine Plan.passed rfl ?_
            refine Plan.pickFb rfl rfl rfl ?_
            refine Plan.assign_bool rfl rfl ?_
            refine Plan.nil ?_
            refine hK332 _ _ ?_; clear hK332
            refine W.ret (finR_ret ?_)
            have h385 := St.pickT (C := [_, _, _, _, _]) h356 [] (by decide)
            simp only [pick, List.filterMap_cons, List.filterMap_nil, List.getElem?_cons_zero, List.getElem?_cons_succ, List.cons_append, List.nil_append] at h385
            subst r
            refine RetOk.mk (.tmp_bool rfl .nil) ?_
            exact ⟨rfl, h385⟩
        ·
          replace hR := ifF hR hc347
          obtain rfl : x_345 = false := Bool.eq_false_iff.2 hc347
          refine Plan.pickTb rfl rfl rfl ?_
          refine Plan.move_bool rfl rfl ?_
          refine Plan.passed rfl ?_
          refine Plan.passed rfl ?_
          refine Plan.passed rfl ?_
          refine Plan.passed rfl ?_
          refine Plan.passed rfl ?_
          refine Plan.pickFb rfl rfl rfl ?_
          refine Plan.move_bool rfl rfl ?_
          refine Plan.passed rfl ?_
          refine Plan.passed rfl ?_
          refine Plan.passed rfl ?_
          refine Plan.passed rfl ?_
          refine Plan.passed rfl ?_
          refine Plan.pickFb rfl rfl rfl ?_
          refine Plan.move_bool rfl rfl ?_
          refine Plan.passed rfl ?_
          refine Plan.passed rfl ?_
          refine Plan.passed rfl ?_
          refine Plan.passed rfl ?_
          refine Plan.passed rfl ?_
          refine Plan.passed rfl ?_
          refine Plan.passed rfl ?_
          refine Plan.passed rfl ?_
          refine Plan.passed rfl ?_
          refine Plan.pickFb rfl rfl rfl ?_
          refine Plan.assign_bool rfl rfl ?_
          refine Plan.nil ?_
          refine hK332 _ _ ?_; clear hK332
          refine W.ret (finR_ret ?_)
          have h386 := St.pickT (C := [_, _, _, _, _]) h346 [] (by decide)
          simp only [pick, List.filterMap_cons, List.filterMap_nil, List.getElem?_cons_zero, List.getElem?_cons_succ, List.cons_append, List.nil_append] at h386
          subst r
          refine RetOk.mk (.tmp_bool rfl .nil) ?_
          exact ⟨rfl, h386⟩
      ·
        replace hR := ifF hR hc340
        obtain rfl : x_338 = false := Bool.eq_false_iff.2 hc340
        refine Plan.move_bool rfl rfl ?_
        refine Plan.passed rfl ?_
        refine Plan.passed rfl ?_
        refine Plan.passed rfl ?_
        refine Plan.passed rfl ?_
        refine Plan.pickFb rfl rfl rfl ?_
        refine Plan.move_bool rfl rfl ?_
        refine Plan.passed rfl ?_
        refine Plan.passed rfl ?_
        refine Plan.passed rfl ?_
        refine Plan.passed rfl ?_
        refine Plan.passed rfl ?_
        refine Plan.pickFb rfl rfl rfl ?_
        refine Plan.move_bool rfl rfl ?_
        refine Plan.passed rfl ?_
        refine Plan.passed rfl ?_
        refine Plan.passed rfl ?_
        refine Plan.passed rfl ?_
        refine Plan.passed rfl ?_
        refine Plan.pickFb rfl rfl rfl ?_
        refine Plan.move_bool rfl rfl ?_
        refine Plan.passed rfl ?_
        refine Plan.passed rfl ?_
        refine Plan.passed rfl ?_
        refine Plan.passed rfl ?_
        refine Plan.passed rfl ?_
        refine Plan.passed rfl ?_
        refine Plan.passed rfl ?_
        refine Plan.passed rfl ?_
        refine Plan.passed rfl ?_
        refine Plan.pickFb rfl rfl rfl ?_
        refine Plan.assign_bool rfl rfl ?_
        refine Plan.nil ?_
        refine hK332 _ _ ?_; clear hK332
        refine W.ret (finR_ret ?_)
        have h387 := St.pickT (C := [_, _, _, _, _]) h339 [] (by decide)
        simp only [pick, List.filterMap_cons, List.filterMap_nil, List.getElem?_cons_zero, List.getElem?_cons_succ, List.cons_append, List.nil_append] at h387
        subst r
        refine RetOk.mk (.tmp_bool rfl .nil) ?_
        exact ⟨rfl, h387⟩

end Go.Proofs.Ytjblfkmmbpcpaaa
