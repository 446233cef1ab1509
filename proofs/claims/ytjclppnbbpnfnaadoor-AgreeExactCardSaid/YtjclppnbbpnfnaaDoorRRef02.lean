/-
 RELATIONS of the package's functions, printed by this session's own program (auto.py).
-/
import Derived.Test.YtjclppnbbpnfnaaDoorEb
import Derived.Test.YtjclppnbbpnfnaaDoorFldT
import Derived.Test.YtjclppnbbpnfnaaDoorShaM
namespace Go.Proofs.YtjclppnbbpnfnaaDoor
set_option linter.unusedSimpArgs false
set_option linter.unusedVariables false
set_option linter.unusedSectionVars false
open Go Go.LW
def letheref02_padded_l0  (out26 : (List Byte)) (o28 : (List Byte) ⊕ (List Byte)) : Prop :=
 if (out26.length % 64) ≠ 56 then (
   (out26.length + ([0#8] : List Byte).length ≤ 140737488355328) ∧
   o28 = .inl (out26 ++ ([0#8] : List Byte))
 ) else (
   o28 = .inr out26
 )
def letheref02_padded_l1  (s : ((List Byte) × (BitVec 64) × Int × (Nat → BitVec 8))) (o81 : ((List Byte) × (BitVec 64) × Int × (Nat → BitVec 8)) ⊕ ((List Byte) × (Nat → BitVec 8))) : Prop :=
 match s with
 | (out75, n_76, i_77, m78) =>
   if 0 ≤ i_77 then (
     (0 ≤ i_77 ∧ i_77 < 8) ∧
     (-9223372036854775808 ≤ (i_77 - 1) ∧ (i_77 - 1) ≤ 9223372036854775807) ∧
     o81 = .inl (out75, (n_76 / (256#64)), (i_77 - 1), (upd m78 i_77.toNat ((n_76 % (256#64)).setWidth 8)))
   ) else (
     o81 = .inr (out75, m78)
   )
def letheref02_padded (m1 : List Byte) (r : (List Byte)) : Prop :=
 (0 + m1.length ≤ 140737488355328) ∧
 ((([] : List Byte) ++ m1).length + ([128#8] : List Byte).length ≤ 140737488355328) ∧
 ∃ out27 : List Byte, Iter (letheref02_padded_l0) ((([] : List Byte) ++ m1) ++ ([128#8] : List Byte)) out27 ∧
 ∃ out79 : List Byte, ∃ m80 : Nat → BitVec 8, Iter (letheref02_padded_l1) (out27, ((BitVec.ofNat 64 m1.length) * (8#64)), 7, (fun _ => 0#8)) (out79, m80) ∧
 (out27.length + ([(m80 0), (m80 1), (m80 2), (m80 3), (m80 4), (m80 5), (m80 6), (m80 7)] : List Byte).length ≤ 140737488355328) ∧
 r = (out79 ++ ([(m80 0), (m80 1), (m80 2), (m80 3), (m80 4), (m80 5), (m80 6), (m80 7)] : List Byte))
def letheref02_Begin_l0  (s : (Nat × (Nat → BitVec 32))) (o22 : (Nat × (Nat → BitVec 32)) ⊕ (Nat → BitVec 32)) : Prop :=
 match s with
 | (i_19, m20) =>
   if i_19 < 8 then (
     o22 = .inl ((i_19 + 1), (upd m20 i_19 ((H64 i_19).setWidth 32)))
   ) else (
     o22 = .inr m20
   )
def letheref02_Begin  (r : (Nat → BitVec 32)) : Prop :=
 ∃ m21 : Nat → BitVec 32, Iter (letheref02_Begin_l0) (0, (fun _ => 0#32)) m21 ∧
 r = m21
def letheref02_At_l0 (b1 : List Byte) (i_2 : Int) (s : (Nat × (Nat → BitVec 8))) (o32 : (Nat × (Nat → BitVec 8)) ⊕ (Nat → BitVec 8)) : Prop :=
 match s with
 | (k29, m30) =>
   if k29 < 64 then (
     (-9223372036854775808 ≤ (64 * i_2) ∧ (64 * i_2) ≤ 9223372036854775807) ∧
     (-9223372036854775808 ≤ ((64 * i_2) + ((k29 : Nat) : Int)) ∧ ((64 * i_2) + ((k29 : Nat) : Int)) ≤ 9223372036854775807) ∧
     (0 ≤ ((64 * i_2) + ((k29 : Nat) : Int)) ∧ ((64 * i_2) + ((k29 : Nat) : Int)) < b1.length) ∧
     o32 = .inl ((k29 + 1), (upd m30 k29 (lit b1 (((64 * i_2) + ((k29 : Nat) : Int)).toNat))))
   ) else (
     o32 = .inr m30
   )
def letheref02_At (b1 : List Byte) (i_2 : Int) (r : (Nat → BitVec 8)) : Prop :=
 ∃ m31 : Nat → BitVec 8, Iter (letheref02_At_l0 b1 i_2) (0, (fun _ => 0#8)) m31 ∧
 r = m31
def letheref02_turn_l0 (n_1 : Int) (s : ((BitVec 64) × Nat)) (o20 : ((BitVec 64) × Nat) ⊕ (BitVec 64)) : Prop :=
 match s with
 | (x_17, i_18) =>
   if ((i_18 : Nat) : Int) < n_1 then (
     ((i_18 + 1) < 9223372036854775808) ∧
     o20 = .inl (((x_17 / (2#64)) + ((x_17 % (2#64)) * (2147483648#64))), (i_18 + 1))
   ) else (
     o20 = .inr x_17
   )
def letheref02_turn (n_1 : Int) (x_2 : BitVec 64) (r : (BitVec 64)) : Prop :=
 ∃ x_19 : BitVec 64, Iter (letheref02_turn_l0 n_1) (x_2, 0) x_19 ∧
 r = x_19
def letheref02_move_l0 (n_1 : Int) (s : ((BitVec 64) × Nat)) (o20 : ((BitVec 64) × Nat) ⊕ (BitVec 64)) : Prop :=
 match s with
 | (x_17, i_18) =>
   if ((i_18 : Nat) : Int) < n_1 then (
     ((i_18 + 1) < 9223372036854775808) ∧
     o20 = .inl ((x_17 / (2#64)), (i_18 + 1))
   ) else (
     o20 = .inr x_17
   )
def letheref02_move (n_1 : Int) (x_2 : BitVec 64) (r : (BitVec 64)) : Prop :=
 ∃ x_19 : BitVec 64, Iter (letheref02_move_l0 n_1) (x_2, 0) x_19 ∧
 r = x_19
def letheref02_schedule_l1 (block1 : Nat → BitVec 8) (t73 : Nat) (s : (Nat × (Nat → BitVec 64))) (o100 : (Nat × (Nat → BitVec 64)) ⊕ (Nat → BitVec 64)) : Prop :=
 match s with
 | (k97, m98) =>
   if k97 < 4 then (
     o100 = .inl ((k97 + 1), (upd m98 t73 (((m98 t73) * (256#64)) + ((block1 ((4 * t73) + k97)).setWidth 64))))
   ) else (
     o100 = .inr m98
   )
def letheref02_schedule_l0 (block1 : Nat → BitVec 8) (s : (Nat × (Nat → BitVec 64))) (o76 : (Nat × (Nat → BitVec 64)) ⊕ (Nat → BitVec 64)) : Prop :=
 match s with
 | (t73, m74) =>
   if t73 < 16 then (
     ∃ m99 : Nat → BitVec 64, Iter (letheref02_schedule_l1 block1 t73) (0, m74) m99 ∧
     o76 = .inl ((t73 + 1), m99)
   ) else (
     o76 = .inr m74
   )
def letheref02_schedule_l2  (s : (Nat × (Nat → BitVec 64))) (o182 : (Nat × (Nat → BitVec 64)) ⊕ (Nat → BitVec 64)) : Prop :=
 match s with
 | (t179, m180) =>
   if t179 < 64 then (
     (0 ≤ (((t179 : Nat) : Int) - 15) ∧ (((t179 : Nat) : Int) - 15) < 64) ∧
     (0 ≤ (((t179 : Nat) : Int) - 15) ∧ (((t179 : Nat) : Int) - 15) < 64) ∧
     (0 ≤ (((t179 : Nat) : Int) - 15) ∧ (((t179 : Nat) : Int) - 15) < 64) ∧
     ∃ x_194 : BitVec 64, letheref02_turn 7 (m180 ((((t179 : Nat) : Int) - 15).toNat)) x_194 ∧
     ∃ x_197 : BitVec 64, letheref02_turn 18 (m180 ((((t179 : Nat) : Int) - 15).toNat)) x_197 ∧
     ∃ x_200 : BitVec 64, letheref02_move 3 (m180 ((((t179 : Nat) : Int) - 15).toNat)) x_200 ∧
     (0 ≤ (((t179 : Nat) : Int) - 2) ∧ (((t179 : Nat) : Int) - 2) < 64) ∧
     (0 ≤ (((t179 : Nat) : Int) - 2) ∧ (((t179 : Nat) : Int) - 2) < 64) ∧
     (0 ≤ (((t179 : Nat) : Int) - 2) ∧ (((t179 : Nat) : Int) - 2) < 64) ∧
     ∃ x_208 : BitVec 64, letheref02_turn 17 (m180 ((((t179 : Nat) : Int) - 2).toNat)) x_208 ∧
     ∃ x_211 : BitVec 64, letheref02_turn 19 (m180 ((((t179 : Nat) : Int) - 2).toNat)) x_211 ∧
     ∃ x_214 : BitVec 64, letheref02_move 10 (m180 ((((t179 : Nat) : Int) - 2).toNat)) x_214 ∧
     (0 ≤ (((t179 : Nat) : Int) - 7) ∧ (((t179 : Nat) : Int) - 7) < 64) ∧
     (0 ≤ (((t179 : Nat) : Int) - 16) ∧ (((t179 : Nat) : Int) - 16) < 64) ∧
     o182 = .inl ((t179 + 1), (upd m180 t179 ((((((x_208 ^^^ x_211) ^^^ x_214) + (m180 ((((t179 : Nat) : Int) - 7).toNat))) + ((x_194 ^^^ x_197) ^^^ x_200)) + (m180 ((((t179 : Nat) : Int) - 16).toNat))) % (4294967296#64))))
   ) else (
     o182 = .inr m180
   )
def letheref02_schedule (block1 : Nat → BitVec 8) (r : (Nat → BitVec 64)) : Prop :=
 ∃ m75 : Nat → BitVec 64, Iter (letheref02_schedule_l0 block1) (0, (fun _ => 0#64)) m75 ∧
 ∃ m181 : Nat → BitVec 64, Iter (letheref02_schedule_l2) (16, m75) m181 ∧
 r = m181
def letheref02_Block_l0 (state1 : Nat → BitVec 32) (s : (Nat × (Nat → BitVec 64))) (o32 : (Nat × (Nat → BitVec 64)) ⊕ (Nat → BitVec 64)) : Prop :=
 match s with
 | (i_29, m30) =>
   if i_29 < 8 then (
     o32 = .inl ((i_29 + 1), (upd m30 i_29 ((state1 i_29).setWidth 64)))
   ) else (
     o32 = .inr m30
   )
def letheref02_Block_l2  (s : (Int × (Nat → BitVec 64))) (o269 : (Int × (Nat → BitVec 64)) ⊕ (Nat → BitVec 64)) : Prop :=
 match s with
 | (i_266, m267) =>
   if 0 < i_266 then (
     (-9223372036854775808 ≤ (i_266 - 1) ∧ (i_266 - 1) ≤ 9223372036854775807) ∧
     (0 ≤ (i_266 - 1) ∧ (i_266 - 1) < 8) ∧
     (0 ≤ i_266 ∧ i_266 < 8) ∧
     (-9223372036854775808 ≤ (i_266 - 1) ∧ (i_266 - 1) ≤ 9223372036854775807) ∧
     o269 = .inl ((i_266 - 1), (upd m267 i_266.toNat (m267 ((i_266 - 1).toNat))))
   ) else (
     o269 = .inr m267
   )
def letheref02_Block_l1 (x_9 : Nat → BitVec 64) (s : (Nat × (Nat → BitVec 64))) (o204 : (Nat × (Nat → BitVec 64)) ⊕ (Nat → BitVec 64)) : Prop :=
 match s with
 | (t201, m202) =>
   if t201 < 64 then (
     ∃ x_214 : BitVec 64, letheref02_turn 2 (m202 0) x_214 ∧
     ∃ x_217 : BitVec 64, letheref02_turn 13 (m202 0) x_217 ∧
     ∃ x_220 : BitVec 64, letheref02_turn 22 (m202 0) x_220 ∧
     ∃ x_224 : BitVec 64, letheref02_turn 6 (m202 4) x_224 ∧
     ∃ x_227 : BitVec 64, letheref02_turn 11 (m202 4) x_227 ∧
     ∃ x_230 : BitVec 64, letheref02_turn 25 (m202 4) x_230 ∧
     ∃ m268 : Nat → BitVec 64, Iter (letheref02_Block_l2) (7, m202) m268 ∧
     o204 = .inl ((t201 + 1), (upd (upd m268 4 (((m268 4) + (((((m202 7) + ((x_224 ^^^ x_227) ^^^ x_230)) + (((m202 4) &&& (m202 5)) ^^^ (((4294967295#64) - (m202 4)) &&& (m202 6)))) + (K64 t201)) + (x_9 t201))) % (4294967296#64))) 0 (((((((m202 7) + ((x_224 ^^^ x_227) ^^^ x_230)) + (((m202 4) &&& (m202 5)) ^^^ (((4294967295#64) - (m202 4)) &&& (m202 6)))) + (K64 t201)) + (x_9 t201)) + (((x_214 ^^^ x_217) ^^^ x_220) + ((((m202 0) &&& (m202 1)) ^^^ ((m202 0) &&& (m202 2))) ^^^ ((m202 1) &&& (m202 2))))) % (4294967296#64))))
   ) else (
     o204 = .inr m202
   )
def letheref02_Block_l3 (m203 : Nat → BitVec 64) (s : (Nat × (Nat → BitVec 32))) (o305 : (Nat × (Nat → BitVec 32)) ⊕ (Nat → BitVec 32)) : Prop :=
 match s with
 | (i_302, m303) =>
   if i_302 < 8 then (
     o305 = .inl ((i_302 + 1), (upd m303 i_302 (((((m303 i_302).setWidth 64) + (m203 i_302)) % (4294967296#64)).setWidth 32)))
   ) else (
     o305 = .inr m303
   )
def letheref02_Block (state1 : Nat → BitVec 32) (block2 : Nat → BitVec 8) (r : (Nat → BitVec 32)) : Prop :=
 ∃ x_9 : Nat → BitVec 64, letheref02_schedule block2 x_9 ∧
 ∃ m31 : Nat → BitVec 64, Iter (letheref02_Block_l0 state1) (0, (fun _ => 0#64)) m31 ∧
 ∃ m203 : Nat → BitVec 64, Iter (letheref02_Block_l1 x_9) (0, m31) m203 ∧
 ∃ m304 : Nat → BitVec 32, Iter (letheref02_Block_l3 m203) (0, state1) m304 ∧
 r = m304
def letheref02_bytesOf_l1 (i_115 : Nat) (s : ((BitVec 32) × Int × (Nat → BitVec 8))) (o160 : ((BitVec 32) × Int × (Nat → BitVec 8)) ⊕ (Nat → BitVec 8)) : Prop :=
 match s with
 | (v156, k157, m158) =>
   if 0 ≤ k157 then (
     (-9223372036854775808 ≤ ((((4 * i_115) : Nat) : Int) + k157) ∧ ((((4 * i_115) : Nat) : Int) + k157) ≤ 9223372036854775807) ∧
     (0 ≤ ((((4 * i_115) : Nat) : Int) + k157) ∧ ((((4 * i_115) : Nat) : Int) + k157) < 32) ∧
     (-9223372036854775808 ≤ (k157 - 1) ∧ (k157 - 1) ≤ 9223372036854775807) ∧
     o160 = .inl ((v156 / (256#32)), (k157 - 1), (upd m158 (((((4 * i_115) : Nat) : Int) + k157).toNat) ((v156 % (256#32)).setWidth 8)))
   ) else (
     o160 = .inr m158
   )
def letheref02_bytesOf_l0 (state1 : Nat → BitVec 32) (s : (Nat × (Nat → BitVec 8))) (o118 : (Nat × (Nat → BitVec 8)) ⊕ (Nat → BitVec 8)) : Prop :=
 match s with
 | (i_115, m116) =>
   if i_115 < 8 then (
     ∃ m159 : Nat → BitVec 8, Iter (letheref02_bytesOf_l1 i_115) ((state1 i_115), 3, m116) m159 ∧
     o118 = .inl ((i_115 + 1), m159)
   ) else (
     o118 = .inr m116
   )
def letheref02_bytesOf (state1 : Nat → BitVec 32) (r : (Nat → BitVec 8)) : Prop :=
 ∃ m117 : Nat → BitVec 8, Iter (letheref02_bytesOf_l0 state1) (0, (fun _ => 0#8)) m117 ∧
 r = m117
def letheref02_Sum_l0 (x_6 : List Byte) (s : ((List Byte) × Nat × (Nat → BitVec 32))) (o56 : ((List Byte) × Nat × (Nat → BitVec 32)) ⊕ (Nat → BitVec 32)) : Prop :=
 match s with
 | (b52, i_53, m54) =>
   (x_6.length < 9223372036854775808) ∧
   if i_53 < (x_6.length / 64) then (
     ∃ x_66 : Nat → BitVec 8, letheref02_At b52 ((i_53 : Nat) : Int) x_66 ∧
     ∃ x_69 : Nat → BitVec 32, letheref02_Block m54 x_66 x_69 ∧
     ((i_53 + 1) < 9223372036854775808) ∧
     o56 = .inl (b52, (i_53 + 1), x_69)
   ) else (
     o56 = .inr m54
   )
def letheref02_Sum (m1 : List Byte) (r : (Nat → BitVec 8)) : Prop :=
 ∃ x_6 : List Byte, letheref02_padded m1 x_6 ∧
 ∃ x_15 : Nat → BitVec 32, letheref02_Begin x_15 ∧
 ∃ m55 : Nat → BitVec 32, Iter (letheref02_Sum_l0 x_6) (x_6, 0, x_15) m55 ∧
 ∃ x_77 : Nat → BitVec 8, letheref02_bytesOf m55 x_77 ∧
 r = x_77
end Go.Proofs.YtjclppnbbpnfnaaDoor
