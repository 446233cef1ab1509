/-
 RELATIONS of the package's functions, printed by this session's own program (auto.py).
-/
import Derived.Test.YthjkmhdgenmnoaaDoorEc
import Derived.Test.YthjkmhdgenmnoaaDoorShaM
import Derived.Test.YthjkmhdgenmnoaaDoorRBits
namespace Go.Proofs.YthjkmhdgenmnoaaDoor
set_option linter.unusedSimpArgs false
set_option linter.unusedVariables false
set_option linter.unusedSectionVars false
open Go Go.LW
def sha_New  (r : ((Nat → BitVec 32) × (Nat → BitVec 8) × Nat)) : Prop :=
 r = (H256, (fun _ => 0#8), 0)
def sha_right (n_1 : Int) (x_2 : BitVec 32) (r : (BitVec 32)) : Prop :=
 (-9223372036854775808 ≤ -n_1 ∧ -n_1 ≤ 9223372036854775807) ∧
 ∃ x_7 : BitVec 32, bits_RotateLeft32 x_2 (-n_1) x_7 ∧
 r = x_7
def sha_Compress_l0 (block2 : Nat → BitVec 8) (s : (Nat × (Nat → BitVec 32))) (o29 : (Nat × (Nat → BitVec 32)) ⊕ (Nat → BitVec 32)) : Prop :=
 match s with
 | (t26, m27) =>
   if t26 < 16 then (
     o29 = .inl ((t26 + 1), (upd m27 t26 ((((((block2 (4 * t26)).setWidth 32) <<< 24) ||| (((block2 ((4 * t26) + 1)).setWidth 32) <<< 16)) ||| (((block2 ((4 * t26) + 2)).setWidth 32) <<< 8)) ||| ((block2 ((4 * t26) + 3)).setWidth 32))))
   ) else (
     o29 = .inr m27
   )
def sha_Compress_l1  (s : (Nat × (Nat → BitVec 32))) (o90 : (Nat × (Nat → BitVec 32)) ⊕ (Nat → BitVec 32)) : Prop :=
 match s with
 | (t87, m88) =>
   if t87 < 64 then (
     (0 ≤ (((t87 : Nat) : Int) - 15) ∧ (((t87 : Nat) : Int) - 15) < 64) ∧
     (0 ≤ (((t87 : Nat) : Int) - 2) ∧ (((t87 : Nat) : Int) - 2) < 64) ∧
     (0 ≤ (((t87 : Nat) : Int) - 7) ∧ (((t87 : Nat) : Int) - 7) < 64) ∧
     (0 ≤ (((t87 : Nat) : Int) - 16) ∧ (((t87 : Nat) : Int) - 16) < 64) ∧
     ∃ x_104 : BitVec 32, sha_right 17 (m88 ((((t87 : Nat) : Int) - 2).toNat)) x_104 ∧
     ∃ x_107 : BitVec 32, sha_right 19 (m88 ((((t87 : Nat) : Int) - 2).toNat)) x_107 ∧
     ∃ x_110 : BitVec 32, sha_right 7 (m88 ((((t87 : Nat) : Int) - 15).toNat)) x_110 ∧
     ∃ x_113 : BitVec 32, sha_right 18 (m88 ((((t87 : Nat) : Int) - 15).toNat)) x_113 ∧
     o90 = .inl ((t87 + 1), (upd m88 t87 (((((x_104 ^^^ x_107) ^^^ ((m88 ((((t87 : Nat) : Int) - 2).toNat)) >>> 10)) + (m88 ((((t87 : Nat) : Int) - 7).toNat))) + ((x_110 ^^^ x_113) ^^^ ((m88 ((((t87 : Nat) : Int) - 15).toNat)) >>> 3))) + (m88 ((((t87 : Nat) : Int) - 16).toNat)))))
   ) else (
     o90 = .inr m88
   )
def sha_Compress_l2 (m89 : Nat → BitVec 32) (s : ((BitVec 32) × (BitVec 32) × (BitVec 32) × (BitVec 32) × (BitVec 32) × (BitVec 32) × (BitVec 32) × (BitVec 32) × Nat)) (o198 : ((BitVec 32) × (BitVec 32) × (BitVec 32) × (BitVec 32) × (BitVec 32) × (BitVec 32) × (BitVec 32) × (BitVec 32) × Nat) ⊕ ((BitVec 32) × (BitVec 32) × (BitVec 32) × (BitVec 32) × (BitVec 32) × (BitVec 32) × (BitVec 32) × (BitVec 32))) : Prop :=
 match s with
 | (a181, b182, c183, d_184, e_185, f186, g_187, h_188, t189) =>
   if t189 < 64 then (
     ∃ x_208 : BitVec 32, sha_right 6 e_185 x_208 ∧
     ∃ x_211 : BitVec 32, sha_right 11 e_185 x_211 ∧
     ∃ x_214 : BitVec 32, sha_right 25 e_185 x_214 ∧
     ∃ x_218 : BitVec 32, sha_right 2 a181 x_218 ∧
     ∃ x_221 : BitVec 32, sha_right 13 a181 x_221 ∧
     ∃ x_224 : BitVec 32, sha_right 22 a181 x_224 ∧
     o198 = .inl ((((((h_188 + ((x_208 ^^^ x_211) ^^^ x_214)) + ((e_185 &&& f186) ^^^ ((~~~e_185) &&& g_187))) + (K256 t189)) + (m89 t189)) + (((x_218 ^^^ x_221) ^^^ x_224) + (((a181 &&& b182) ^^^ (a181 &&& c183)) ^^^ (b182 &&& c183)))), a181, b182, c183, (d_184 + ((((h_188 + ((x_208 ^^^ x_211) ^^^ x_214)) + ((e_185 &&& f186) ^^^ ((~~~e_185) &&& g_187))) + (K256 t189)) + (m89 t189))), e_185, f186, g_187, (t189 + 1))
   ) else (
     o198 = .inr (a181, b182, c183, d_184, e_185, f186, g_187, h_188)
   )
def sha_Compress_l3 (a190 : BitVec 32) (b191 : BitVec 32) (c192 : BitVec 32) (d_193 : BitVec 32) (e_194 : BitVec 32) (f195 : BitVec 32) (g_196 : BitVec 32) (h_197 : BitVec 32) (s : (Nat × (Nat → BitVec 32))) (o246 : (Nat × (Nat → BitVec 32)) ⊕ (Nat → BitVec 32)) : Prop :=
 match s with
 | (t243, m244) =>
   if t243 < 8 then (
     o246 = .inl ((t243 + 1), (upd m244 t243 ((m244 t243) + ((lit [a190, b191, c192, d_193, e_194, f195, g_196, h_197]) t243))))
   ) else (
     o246 = .inr m244
   )
def sha_Compress (state1 : Nat → BitVec 32) (block2 : Nat → BitVec 8) (r : (Nat → BitVec 32)) : Prop :=
 ∃ m28 : Nat → BitVec 32, Iter (sha_Compress_l0 block2) (0, (fun _ => 0#32)) m28 ∧
 ∃ m89 : Nat → BitVec 32, Iter (sha_Compress_l1) (16, m28) m89 ∧
 ∃ a190 : BitVec 32, ∃ b191 : BitVec 32, ∃ c192 : BitVec 32, ∃ d_193 : BitVec 32, ∃ e_194 : BitVec 32, ∃ f195 : BitVec 32, ∃ g_196 : BitVec 32, ∃ h_197 : BitVec 32, Iter (sha_Compress_l2 m89) ((state1 0), (state1 1), (state1 2), (state1 3), (state1 4), (state1 5), (state1 6), (state1 7), 0) (a190, b191, c192, d_193, e_194, f195, g_196, h_197) ∧
 ∃ m245 : Nat → BitVec 32, Iter (sha_Compress_l3 a190 b191 c192 d_193 e_194 f195 g_196 h_197) (0, state1) m245 ∧
 r = m245
def sha_Hash_Write_l0  (s : ((List Byte) × (Nat → BitVec 32) × (Nat → BitVec 8) × Int)) (o63 : ((List Byte) × (Nat → BitVec 32) × (Nat → BitVec 8) × Int) ⊕ ((Nat → BitVec 32) × (Nat → BitVec 8) × Int)) : Prop :=
 match s with
 | (b56, m57, m58, m59) =>
   if 0 < b56.length then (
     (0 ≤ (m59.tmod 64)) ∧
     ((m59.tmod 64).toNat ≤ 64 ∧ 64 ≤ 64 ∧ (m59.tmod 64).toNat < 64) ∧
     ((min b56.length (64 - (m59.tmod 64).toNat)) ≤ b56.length ∧ b56.length ≤ b56.length) ∧
     (-9223372036854775808 ≤ (m59 + (((min b56.length (64 - (m59.tmod 64).toNat)) : Nat) : Int)) ∧ (m59 + (((min b56.length (64 - (m59.tmod 64).toNat)) : Nat) : Int)) ≤ 9223372036854775807) ∧
     if ((m59 + (((min b56.length (64 - (m59.tmod 64).toNat)) : Nat) : Int)).tmod 64) = 0 then (
       ∃ x_85 : Nat → BitVec 32, sha_Compress m57 (spl m58 ((m59.tmod 64).toNat) (min b56.length (64 - (m59.tmod 64).toNat)) (lit b56)) x_85 ∧
       o63 = .inl ((seg b56 (min b56.length (64 - (m59.tmod 64).toNat)) b56.length), x_85, (spl m58 ((m59.tmod 64).toNat) (min b56.length (64 - (m59.tmod 64).toNat)) (lit b56)), (m59 + (((min b56.length (64 - (m59.tmod 64).toNat)) : Nat) : Int)))
     ) else (
       o63 = .inl ((seg b56 (min b56.length (64 - (m59.tmod 64).toNat)) b56.length), m57, (spl m58 ((m59.tmod 64).toNat) (min b56.length (64 - (m59.tmod 64).toNat)) (lit b56)), (m59 + (((min b56.length (64 - (m59.tmod 64).toNat)) : Nat) : Int)))
     )
   ) else (
     o63 = .inr (m57, m58, m59)
   )
def sha_Hash_Write (hstate2 : Nat → BitVec 32) (hblock3 : Nat → BitVec 8) (hn4 : Int) (b5 : List Byte) (r : ((Nat → BitVec 32) × (Nat → BitVec 8) × Int)) : Prop :=
 ∃ m60 : Nat → BitVec 32, ∃ m61 : Nat → BitVec 8, ∃ m62 : Int, Iter (sha_Hash_Write_l0) (b5, hstate2, hblock3, hn4) (m60, m61, m62) ∧
 r = (m60, m61, m62)
def sha_Hash_Copy (hstate2 : Nat → BitVec 32) (hblock3 : Nat → BitVec 8) (hn4 : Int) (r : ((Nat → BitVec 32) × (Nat → BitVec 8) × Int)) : Prop :=
 r = (hstate2, hblock3, hn4)
def sha_Hash_Sum_l0  (s : ((Nat → BitVec 32) × (Nat → BitVec 8) × Int)) (o56 : ((Nat → BitVec 32) × (Nat → BitVec 8) × Int) ⊕ ((Nat → BitVec 32) × (Nat → BitVec 8) × Int)) : Prop :=
 match s with
 | (m50, m51, m52) =>
   if (m52.tmod 64) ≠ 56 then (
     ∃ x_66 : Nat → BitVec 32, ∃ x_67 : Nat → BitVec 8, ∃ x_68 : Int, sha_Hash_Write m50 m51 m52 ([0#8] : List Byte) (x_66, x_67, x_68) ∧
     o56 = .inl (x_66, x_67, x_68)
   ) else (
     o56 = .inr (m50, m51, m52)
   )
def sha_Hash_Sum_l1 (hn4 : Int) (s : (Nat × (Nat → BitVec 32) × (Nat → BitVec 8) × Int)) (o108 : (Nat × (Nat → BitVec 32) × (Nat → BitVec 8) × Int) ⊕ ((Nat → BitVec 32) × (Nat → BitVec 8) × Int)) : Prop :=
 match s with
 | (t101, m102, m103, m104) =>
   if t101 < 8 then (
     ∃ x_118 : Nat → BitVec 32, ∃ x_119 : Nat → BitVec 8, ∃ x_120 : Int, sha_Hash_Write m102 m103 m104 ([((((8#64) * (BitVec.ofInt 64 hn4)) >>> (56 - (8 * t101))).setWidth 8)] : List Byte) (x_118, x_119, x_120) ∧
     o108 = .inl ((t101 + 1), x_118, x_119, x_120)
   ) else (
     o108 = .inr (m102, m103, m104)
   )
def sha_Hash_Sum_l2 (m105 : Nat → BitVec 32) (s : (Nat × (Nat → BitVec 8))) (o150 : (Nat × (Nat → BitVec 8)) ⊕ (Nat → BitVec 8)) : Prop :=
 match s with
 | (t147, m148) =>
   if t147 < 8 then (
     o150 = .inl ((t147 + 1), (upd (upd (upd (upd m148 (4 * t147) (((m105 t147) >>> 24).setWidth 8)) ((4 * t147) + 1) (((m105 t147) >>> 16).setWidth 8)) ((4 * t147) + 2) (((m105 t147) >>> 8).setWidth 8)) ((4 * t147) + 3) ((m105 t147).setWidth 8)))
   ) else (
     o150 = .inr m148
   )
def sha_Hash_Sum (hstate2 : Nat → BitVec 32) (hblock3 : Nat → BitVec 8) (hn4 : Int) (r : (Nat → BitVec 8)) : Prop :=
 ∃ x_10 : Nat → BitVec 32, ∃ x_11 : Nat → BitVec 8, ∃ x_12 : Int, sha_Hash_Copy hstate2 hblock3 hn4 (x_10, x_11, x_12) ∧
 ∃ x_20 : Nat → BitVec 32, ∃ x_21 : Nat → BitVec 8, ∃ x_22 : Int, sha_Hash_Write x_10 x_11 x_12 ([128#8] : List Byte) (x_20, x_21, x_22) ∧
 ∃ m53 : Nat → BitVec 32, ∃ m54 : Nat → BitVec 8, ∃ m55 : Int, Iter (sha_Hash_Sum_l0) (x_20, x_21, x_22) (m53, m54, m55) ∧
 ∃ m105 : Nat → BitVec 32, ∃ m106 : Nat → BitVec 8, ∃ m107 : Int, Iter (sha_Hash_Sum_l1 hn4) (0, m53, m54, m55) (m105, m106, m107) ∧
 ∃ m149 : Nat → BitVec 8, Iter (sha_Hash_Sum_l2 m105) (0, (fun _ => 0#8)) m149 ∧
 r = m149
def sha_Sum_l0 (parts1 : List (List Byte)) (s : (Nat × (Nat → BitVec 32) × (Nat → BitVec 8) × Int)) (o49 : (Nat × (Nat → BitVec 32) × (Nat → BitVec 8) × Int) ⊕ ((Nat → BitVec 32) × (Nat → BitVec 8) × Int)) : Prop :=
 match s with
 | (t42, m43, m44, m45) =>
   if t42 < parts1.length then (
     (t42 < parts1.length) ∧
     ∃ x_59 : Nat → BitVec 32, ∃ x_60 : Nat → BitVec 8, ∃ x_61 : Int, sha_Hash_Write m43 m44 m45 (parts1.getD t42 []) (x_59, x_60, x_61) ∧
     ((t42 + 1) < 9223372036854775808) ∧
     o49 = .inl ((t42 + 1), x_59, x_60, x_61)
   ) else (
     o49 = .inr (m43, m44, m45)
   )
def sha_Sum (parts1 : List (List Byte)) (r : (Nat → BitVec 8)) : Prop :=
 ∃ x_6 : Nat → BitVec 32, ∃ x_7 : Nat → BitVec 8, ∃ x_8 : Nat, sha_New (x_6, x_7, x_8) ∧
 ∃ m46 : Nat → BitVec 32, ∃ m47 : Nat → BitVec 8, ∃ m48 : Int, Iter (sha_Sum_l0 parts1) (0, x_6, x_7, ((x_8 : Nat) : Int)) (m46, m47, m48) ∧
 ∃ x_67 : Nat → BitVec 8, sha_Hash_Sum m46 m47 m48 x_67 ∧
 r = x_67
end Go.Proofs.YthjkmhdgenmnoaaDoor
