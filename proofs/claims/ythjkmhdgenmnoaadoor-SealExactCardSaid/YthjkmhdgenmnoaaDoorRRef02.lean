/-
 RELATIONS of the package's functions, printed by this session's own program (auto.py).
-/
import Derived.Test.YthjkmhdgenmnoaaDoorEc
import Derived.Test.YthjkmhdgenmnoaaDoorShaM
namespace Go.Proofs.YthjkmhdgenmnoaaDoor
set_option linter.unusedSimpArgs false
set_option linter.unusedVariables false
set_option linter.unusedSectionVars false
open Go Go.LW
def letheref02_padded_l0  (out26 : (List Byte)) (o28 : (List Byte) ⊕ (List Byte)) : Prop :=
 if (out26.length % 64) ≠ 56 then (
   (out26.length + ([0#8] : List Byte).length ≤ 140737488355328) ∧
   o28 = .inl (out26 ++ ([0#8] : List Byte))
 ) else (
   o28 = .inr out26
 )
def letheref02_padded_l1  (s : ((List Byte) × (BitVec 64) × Int × (Nat → BitVec 8))) (o80 : ((List Byte) × (BitVec 64) × Int × (Nat → BitVec 8)) ⊕ ((List Byte) × (Nat → BitVec 8))) : Prop :=
 match s with
 | (out74, n_75, i_76, m77) =>
   if 0 ≤ i_76 then (
     (0 ≤ i_76 ∧ i_76 < 8) ∧
     (-9223372036854775808 ≤ (i_76 - 1) ∧ (i_76 - 1) ≤ 9223372036854775807) ∧
     o80 = .inl (out74, (n_75 / (256#64)), (i_76 - 1), (upd m77 i_76.toNat ((n_75 % (256#64)).setWidth 8)))
   ) else (
     o80 = .inr (out74, m77)
   )
def letheref02_padded (m1 : List Byte) (r : (List Byte)) : Prop :=
 (0 + m1.length ≤ 140737488355328) ∧
 ((([] : List Byte) ++ m1).length + ([128#8] : List Byte).length ≤ 140737488355328) ∧
 ∃ out27 : List Byte, Iter (letheref02_padded_l0) ((([] : List Byte) ++ m1) ++ ([128#8] : List Byte)) out27 ∧
 ∃ out78 : List Byte, ∃ m79 : Nat → BitVec 8, Iter (letheref02_padded_l1) (out27, ((BitVec.ofNat 64 m1.length) * (8#64)), 7, (fun _ => 0#8)) (out78, m79) ∧
 (out27.length + ([(m79 0), (m79 1), (m79 2), (m79 3), (m79 4), (m79 5), (m79 6), (m79 7)] : List Byte).length ≤ 140737488355328) ∧
 r = (out78 ++ ([(m79 0), (m79 1), (m79 2), (m79 3), (m79 4), (m79 5), (m79 6), (m79 7)] : List Byte))
def letheref02_Begin_l0  (s : (Nat × (Nat → BitVec 32))) (o21 : (Nat × (Nat → BitVec 32)) ⊕ (Nat → BitVec 32)) : Prop :=
 match s with
 | (i_18, m19) =>
   if i_18 < 8 then (
     o21 = .inl ((i_18 + 1), (upd m19 i_18 ((H64 i_18).setWidth 32)))
   ) else (
     o21 = .inr m19
   )
def letheref02_Begin  (r : (Nat → BitVec 32)) : Prop :=
 ∃ m20 : Nat → BitVec 32, Iter (letheref02_Begin_l0) (0, (fun _ => 0#32)) m20 ∧
 r = m20
def letheref02_At_l0 (b1 : List Byte) (i_2 : Int) (s : (Nat × (Nat → BitVec 8))) (o31 : (Nat × (Nat → BitVec 8)) ⊕ (Nat → BitVec 8)) : Prop :=
 match s with
 | (k28, m29) =>
   if k28 < 64 then (
     (-9223372036854775808 ≤ (64 * i_2) ∧ (64 * i_2) ≤ 9223372036854775807) ∧
     (-9223372036854775808 ≤ ((64 * i_2) + ((k28 : Nat) : Int)) ∧ ((64 * i_2) + ((k28 : Nat) : Int)) ≤ 9223372036854775807) ∧
     (0 ≤ ((64 * i_2) + ((k28 : Nat) : Int)) ∧ ((64 * i_2) + ((k28 : Nat) : Int)) < b1.length) ∧
     o31 = .inl ((k28 + 1), (upd m29 k28 (lit b1 (((64 * i_2) + ((k28 : Nat) : Int)).toNat))))
   ) else (
     o31 = .inr m29
   )
def letheref02_At (b1 : List Byte) (i_2 : Int) (r : (Nat → BitVec 8)) : Prop :=
 ∃ m30 : Nat → BitVec 8, Iter (letheref02_At_l0 b1 i_2) (0, (fun _ => 0#8)) m30 ∧
 r = m30
def letheref02_turn_l0 (n_1 : Int) (s : ((BitVec 64) × Nat)) (o20 : ((BitVec 64) × Nat) ⊕ (BitVec 64)) : Prop :=
 match s with
 | (x_17, i_18) =>
   if ((i_18 : Nat) : Int) < n_1 then (
     ((i_18 + 1) < 9223372036854775808) ∧
     o20 = .inl (((x_17 / (2#64)) + ((x_17 % (2#64)) * (2147483648#64))), (i_18 + 1))
   ) else (
     o20 = .inr x_17
   )
def letheref02_turn (n_1 : Int) (x_2 : BitVec 64) (r : (BitVec 64)) : Prop :=
 ∃ x_19 : BitVec 64, Iter (letheref02_turn_l0 n_1) (x_2, 0) x_19 ∧
 r = x_19
def letheref02_move_l0 (n_1 : Int) (s : ((BitVec 64) × Nat)) (o20 : ((BitVec 64) × Nat) ⊕ (BitVec 64)) : Prop :=
 match s with
 | (x_17, i_18) =>
   if ((i_18 : Nat) : Int) < n_1 then (
     ((i_18 + 1) < 9223372036854775808) ∧
     o20 = .inl ((x_17 / (2#64)), (i_18 + 1))
   ) else (
     o20 = .inr x_17
   )
def letheref02_move (n_1 : Int) (x_2 : BitVec 64) (r : (BitVec 64)) : Prop :=
 ∃ x_19 : BitVec 64, Iter (letheref02_move_l0 n_1) (x_2, 0) x_19 ∧
 r = x_19
def letheref02_schedule_l1 (block1 : Nat → BitVec 8) (t70 : Nat) (s : (Nat × (Nat → BitVec 64))) (o96 : (Nat × (Nat → BitVec 64)) ⊕ (Nat → BitVec 64)) : Prop :=
 match s with
 | (k93, m94) =>
   if k93 < 4 then (
     o96 = .inl ((k93 + 1), (upd m94 t70 (((m94 t70) * (256#64)) + ((block1 ((4 * t70) + k93)).setWidth 64))))
   ) else (
     o96 = .inr m94
   )
def letheref02_schedule_l0 (block1 : Nat → BitVec 8) (s : (Nat × (Nat → BitVec 64))) (o73 : (Nat × (Nat → BitVec 64)) ⊕ (Nat → BitVec 64)) : Prop :=
 match s with
 | (t70, m71) =>
   if t70 < 16 then (
     ∃ m95 : Nat → BitVec 64, Iter (letheref02_schedule_l1 block1 t70) (0, m71) m95 ∧
     o73 = .inl ((t70 + 1), m95)
   ) else (
     o73 = .inr m71
   )
def letheref02_schedule_l2  (s : (Nat × (Nat → BitVec 64))) (o177 : (Nat × (Nat → BitVec 64)) ⊕ (Nat → BitVec 64)) : Prop :=
 match s with
 | (t174, m175) =>
   if t174 < 64 then (
     (0 ≤ (((t174 : Nat) : Int) - 15) ∧ (((t174 : Nat) : Int) - 15) < 64) ∧
     (0 ≤ (((t174 : Nat) : Int) - 15) ∧ (((t174 : Nat) : Int) - 15) < 64) ∧
     (0 ≤ (((t174 : Nat) : Int) - 15) ∧ (((t174 : Nat) : Int) - 15) < 64) ∧
     ∃ x_189 : BitVec 64, letheref02_turn 7 (m175 ((((t174 : Nat) : Int) - 15).toNat)) x_189 ∧
     ∃ x_192 : BitVec 64, letheref02_turn 18 (m175 ((((t174 : Nat) : Int) - 15).toNat)) x_192 ∧
     ∃ x_195 : BitVec 64, letheref02_move 3 (m175 ((((t174 : Nat) : Int) - 15).toNat)) x_195 ∧
     (0 ≤ (((t174 : Nat) : Int) - 2) ∧ (((t174 : Nat) : Int) - 2) < 64) ∧
     (0 ≤ (((t174 : Nat) : Int) - 2) ∧ (((t174 : Nat) : Int) - 2) < 64) ∧
     (0 ≤ (((t174 : Nat) : Int) - 2) ∧ (((t174 : Nat) : Int) - 2) < 64) ∧
     ∃ x_203 : BitVec 64, letheref02_turn 17 (m175 ((((t174 : Nat) : Int) - 2).toNat)) x_203 ∧
     ∃ x_206 : BitVec 64, letheref02_turn 19 (m175 ((((t174 : Nat) : Int) - 2).toNat)) x_206 ∧
     ∃ x_209 : BitVec 64, letheref02_move 10 (m175 ((((t174 : Nat) : Int) - 2).toNat)) x_209 ∧
     (0 ≤ (((t174 : Nat) : Int) - 7) ∧ (((t174 : Nat) : Int) - 7) < 64) ∧
     (0 ≤ (((t174 : Nat) : Int) - 16) ∧ (((t174 : Nat) : Int) - 16) < 64) ∧
     o177 = .inl ((t174 + 1), (upd m175 t174 ((((((x_203 ^^^ x_206) ^^^ x_209) + (m175 ((((t174 : Nat) : Int) - 7).toNat))) + ((x_189 ^^^ x_192) ^^^ x_195)) + (m175 ((((t174 : Nat) : Int) - 16).toNat))) % (4294967296#64))))
   ) else (
     o177 = .inr m175
   )
def letheref02_schedule (block1 : Nat → BitVec 8) (r : (Nat → BitVec 64)) : Prop :=
 ∃ m72 : Nat → BitVec 64, Iter (letheref02_schedule_l0 block1) (0, (fun _ => 0#64)) m72 ∧
 ∃ m176 : Nat → BitVec 64, Iter (letheref02_schedule_l2) (16, m72) m176 ∧
 r = m176
def letheref02_Block_l0 (state1 : Nat → BitVec 32) (s : (Nat × (Nat → BitVec 64))) (o31 : (Nat × (Nat → BitVec 64)) ⊕ (Nat → BitVec 64)) : Prop :=
 match s with
 | (i_28, m29) =>
   if i_28 < 8 then (
     o31 = .inl ((i_28 + 1), (upd m29 i_28 ((state1 i_28).setWidth 64)))
   ) else (
     o31 = .inr m29
   )
def letheref02_Block_l2  (s : (Int × (Nat → BitVec 64))) (o264 : (Int × (Nat → BitVec 64)) ⊕ (Nat → BitVec 64)) : Prop :=
 match s with
 | (i_261, m262) =>
   if 0 < i_261 then (
     (-9223372036854775808 ≤ (i_261 - 1) ∧ (i_261 - 1) ≤ 9223372036854775807) ∧
     (0 ≤ (i_261 - 1) ∧ (i_261 - 1) < 8) ∧
     (0 ≤ i_261 ∧ i_261 < 8) ∧
     (-9223372036854775808 ≤ (i_261 - 1) ∧ (i_261 - 1) ≤ 9223372036854775807) ∧
     o264 = .inl ((i_261 - 1), (upd m262 i_261.toNat (m262 ((i_261 - 1).toNat))))
   ) else (
     o264 = .inr m262
   )
def letheref02_Block_l1 (x_9 : Nat → BitVec 64) (s : (Nat × (Nat → BitVec 64))) (o200 : (Nat × (Nat → BitVec 64)) ⊕ (Nat → BitVec 64)) : Prop :=
 match s with
 | (t197, m198) =>
   if t197 < 64 then (
     ∃ x_210 : BitVec 64, letheref02_turn 2 (m198 0) x_210 ∧
     ∃ x_213 : BitVec 64, letheref02_turn 13 (m198 0) x_213 ∧
     ∃ x_216 : BitVec 64, letheref02_turn 22 (m198 0) x_216 ∧
     ∃ x_220 : BitVec 64, letheref02_turn 6 (m198 4) x_220 ∧
     ∃ x_223 : BitVec 64, letheref02_turn 11 (m198 4) x_223 ∧
     ∃ x_226 : BitVec 64, letheref02_turn 25 (m198 4) x_226 ∧
     ∃ m263 : Nat → BitVec 64, Iter (letheref02_Block_l2) (7, m198) m263 ∧
     o200 = .inl ((t197 + 1), (upd (upd m263 4 (((m263 4) + (((((m198 7) + ((x_220 ^^^ x_223) ^^^ x_226)) + (((m198 4) &&& (m198 5)) ^^^ (((4294967295#64) - (m198 4)) &&& (m198 6)))) + (K64 t197)) + (x_9 t197))) % (4294967296#64))) 0 (((((((m198 7) + ((x_220 ^^^ x_223) ^^^ x_226)) + (((m198 4) &&& (m198 5)) ^^^ (((4294967295#64) - (m198 4)) &&& (m198 6)))) + (K64 t197)) + (x_9 t197)) + (((x_210 ^^^ x_213) ^^^ x_216) + ((((m198 0) &&& (m198 1)) ^^^ ((m198 0) &&& (m198 2))) ^^^ ((m198 1) &&& (m198 2))))) % (4294967296#64))))
   ) else (
     o200 = .inr m198
   )
def letheref02_Block_l3 (m199 : Nat → BitVec 64) (s : (Nat × (Nat → BitVec 32))) (o299 : (Nat × (Nat → BitVec 32)) ⊕ (Nat → BitVec 32)) : Prop :=
 match s with
 | (i_296, m297) =>
   if i_296 < 8 then (
     o299 = .inl ((i_296 + 1), (upd m297 i_296 (((((m297 i_296).setWidth 64) + (m199 i_296)) % (4294967296#64)).setWidth 32)))
   ) else (
     o299 = .inr m297
   )
def letheref02_Block (state1 : Nat → BitVec 32) (block2 : Nat → BitVec 8) (r : (Nat → BitVec 32)) : Prop :=
 ∃ x_9 : Nat → BitVec 64, letheref02_schedule block2 x_9 ∧
 ∃ m30 : Nat → BitVec 64, Iter (letheref02_Block_l0 state1) (0, (fun _ => 0#64)) m30 ∧
 ∃ m199 : Nat → BitVec 64, Iter (letheref02_Block_l1 x_9) (0, m30) m199 ∧
 ∃ m298 : Nat → BitVec 32, Iter (letheref02_Block_l3 m199) (0, state1) m298 ∧
 r = m298
def letheref02_bytesOf_l1 (i_112 : Nat) (s : ((BitVec 32) × Int × (Nat → BitVec 8))) (o156 : ((BitVec 32) × Int × (Nat → BitVec 8)) ⊕ (Nat → BitVec 8)) : Prop :=
 match s with
 | (v152, k153, m154) =>
   if 0 ≤ k153 then (
     (-9223372036854775808 ≤ ((((4 * i_112) : Nat) : Int) + k153) ∧ ((((4 * i_112) : Nat) : Int) + k153) ≤ 9223372036854775807) ∧
     (0 ≤ ((((4 * i_112) : Nat) : Int) + k153) ∧ ((((4 * i_112) : Nat) : Int) + k153) < 32) ∧
     (-9223372036854775808 ≤ (k153 - 1) ∧ (k153 - 1) ≤ 9223372036854775807) ∧
     o156 = .inl ((v152 / (256#32)), (k153 - 1), (upd m154 (((((4 * i_112) : Nat) : Int) + k153).toNat) ((v152 % (256#32)).setWidth 8)))
   ) else (
     o156 = .inr m154
   )
def letheref02_bytesOf_l0 (state1 : Nat → BitVec 32) (s : (Nat × (Nat → BitVec 8))) (o115 : (Nat × (Nat → BitVec 8)) ⊕ (Nat → BitVec 8)) : Prop :=
 match s with
 | (i_112, m113) =>
   if i_112 < 8 then (
     ∃ m155 : Nat → BitVec 8, Iter (letheref02_bytesOf_l1 i_112) ((state1 i_112), 3, m113) m155 ∧
     o115 = .inl ((i_112 + 1), m155)
   ) else (
     o115 = .inr m113
   )
def letheref02_bytesOf (state1 : Nat → BitVec 32) (r : (Nat → BitVec 8)) : Prop :=
 ∃ m114 : Nat → BitVec 8, Iter (letheref02_bytesOf_l0 state1) (0, (fun _ => 0#8)) m114 ∧
 r = m114
def letheref02_Sum_l0 (x_6 : List Byte) (s : ((List Byte) × Nat × (Nat → BitVec 32))) (o56 : ((List Byte) × Nat × (Nat → BitVec 32)) ⊕ (Nat → BitVec 32)) : Prop :=
 match s with
 | (b52, i_53, m54) =>
   (x_6.length < 9223372036854775808) ∧
   if i_53 < (x_6.length / 64) then (
     ∃ x_66 : Nat → BitVec 8, letheref02_At b52 ((i_53 : Nat) : Int) x_66 ∧
     ∃ x_69 : Nat → BitVec 32, letheref02_Block m54 x_66 x_69 ∧
     ((i_53 + 1) < 9223372036854775808) ∧
     o56 = .inl (b52, (i_53 + 1), x_69)
   ) else (
     o56 = .inr m54
   )
def letheref02_Sum (m1 : List Byte) (r : (Nat → BitVec 8)) : Prop :=
 ∃ x_6 : List Byte, letheref02_padded m1 x_6 ∧
 ∃ x_15 : Nat → BitVec 32, letheref02_Begin x_15 ∧
 ∃ m55 : Nat → BitVec 32, Iter (letheref02_Sum_l0 x_6) (x_6, 0, x_15) m55 ∧
 ∃ x_77 : Nat → BitVec 8, letheref02_bytesOf m55 x_77 ∧
 r = x_77
end Go.Proofs.YthjkmhdgenmnoaaDoor
