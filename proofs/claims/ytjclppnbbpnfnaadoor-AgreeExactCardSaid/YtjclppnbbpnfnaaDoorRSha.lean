/-
 RELATIONS of the package's functions, printed by this session's own program (auto.py).
-/
import Derived.Test.YtjclppnbbpnfnaaDoorEb
import Derived.Test.YtjclppnbbpnfnaaDoorFldT
import Derived.Test.YtjclppnbbpnfnaaDoorShaM
import Derived.Test.YtjclppnbbpnfnaaDoorRBits
namespace Go.Proofs.YtjclppnbbpnfnaaDoor
set_option linter.unusedSimpArgs false
set_option linter.unusedVariables false
set_option linter.unusedSectionVars false
open Go Go.LW
def sha_New  (r : ((Nat → BitVec 32) × (Nat → BitVec 8) × Nat)) : Prop :=
 r = (H256, (fun _ => 0#8), 0)
def sha_right (n_1 : Int) (x_2 : BitVec 32) (r : (BitVec 32)) : Prop :=
 (-9223372036854775808 ≤ -n_1 ∧ -n_1 ≤ 9223372036854775807) ∧
 ∃ x_7 : BitVec 32, bits_RotateLeft32 x_2 (-n_1) x_7 ∧
 r = x_7
def sha_Compress_l0 (block2 : Nat → BitVec 8) (s : (Nat × (Nat → BitVec 32))) (o30 : (Nat × (Nat → BitVec 32)) ⊕ (Nat → BitVec 32)) : Prop :=
 match s with
 | (t27, m28) =>
   if t27 < 16 then (
     o30 = .inl ((t27 + 1), (upd m28 t27 ((((((block2 (4 * t27)).setWidth 32) <<< 24) ||| (((block2 ((4 * t27) + 1)).setWidth 32) <<< 16)) ||| (((block2 ((4 * t27) + 2)).setWidth 32) <<< 8)) ||| ((block2 ((4 * t27) + 3)).setWidth 32))))
   ) else (
     o30 = .inr m28
   )
def sha_Compress_l1  (s : (Nat × (Nat → BitVec 32))) (o92 : (Nat × (Nat → BitVec 32)) ⊕ (Nat → BitVec 32)) : Prop :=
 match s with
 | (t89, m90) =>
   if t89 < 64 then (
     (0 ≤ (((t89 : Nat) : Int) - 15) ∧ (((t89 : Nat) : Int) - 15) < 64) ∧
     (0 ≤ (((t89 : Nat) : Int) - 2) ∧ (((t89 : Nat) : Int) - 2) < 64) ∧
     (0 ≤ (((t89 : Nat) : Int) - 7) ∧ (((t89 : Nat) : Int) - 7) < 64) ∧
     (0 ≤ (((t89 : Nat) : Int) - 16) ∧ (((t89 : Nat) : Int) - 16) < 64) ∧
     ∃ x_106 : BitVec 32, sha_right 17 (m90 ((((t89 : Nat) : Int) - 2).toNat)) x_106 ∧
     ∃ x_109 : BitVec 32, sha_right 19 (m90 ((((t89 : Nat) : Int) - 2).toNat)) x_109 ∧
     ∃ x_112 : BitVec 32, sha_right 7 (m90 ((((t89 : Nat) : Int) - 15).toNat)) x_112 ∧
     ∃ x_115 : BitVec 32, sha_right 18 (m90 ((((t89 : Nat) : Int) - 15).toNat)) x_115 ∧
     o92 = .inl ((t89 + 1), (upd m90 t89 (((((x_106 ^^^ x_109) ^^^ ((m90 ((((t89 : Nat) : Int) - 2).toNat)) >>> 10)) + (m90 ((((t89 : Nat) : Int) - 7).toNat))) + ((x_112 ^^^ x_115) ^^^ ((m90 ((((t89 : Nat) : Int) - 15).toNat)) >>> 3))) + (m90 ((((t89 : Nat) : Int) - 16).toNat)))))
   ) else (
     o92 = .inr m90
   )
def sha_Compress_l2 (m91 : Nat → BitVec 32) (s : ((BitVec 32) × (BitVec 32) × (BitVec 32) × (BitVec 32) × (BitVec 32) × (BitVec 32) × (BitVec 32) × (BitVec 32) × Nat)) (o201 : ((BitVec 32) × (BitVec 32) × (BitVec 32) × (BitVec 32) × (BitVec 32) × (BitVec 32) × (BitVec 32) × (BitVec 32) × Nat) ⊕ ((BitVec 32) × (BitVec 32) × (BitVec 32) × (BitVec 32) × (BitVec 32) × (BitVec 32) × (BitVec 32) × (BitVec 32))) : Prop :=
 match s with
 | (a184, b185, c186, d_187, e_188, f189, g_190, h_191, t192) =>
   if t192 < 64 then (
     ∃ x_211 : BitVec 32, sha_right 6 e_188 x_211 ∧
     ∃ x_214 : BitVec 32, sha_right 11 e_188 x_214 ∧
     ∃ x_217 : BitVec 32, sha_right 25 e_188 x_217 ∧
     ∃ x_221 : BitVec 32, sha_right 2 a184 x_221 ∧
     ∃ x_224 : BitVec 32, sha_right 13 a184 x_224 ∧
     ∃ x_227 : BitVec 32, sha_right 22 a184 x_227 ∧
     o201 = .inl ((((((h_191 + ((x_211 ^^^ x_214) ^^^ x_217)) + ((e_188 &&& f189) ^^^ ((~~~e_188) &&& g_190))) + (K256 t192)) + (m91 t192)) + (((x_221 ^^^ x_224) ^^^ x_227) + (((a184 &&& b185) ^^^ (a184 &&& c186)) ^^^ (b185 &&& c186)))), a184, b185, c186, (d_187 + ((((h_191 + ((x_211 ^^^ x_214) ^^^ x_217)) + ((e_188 &&& f189) ^^^ ((~~~e_188) &&& g_190))) + (K256 t192)) + (m91 t192))), e_188, f189, g_190, (t192 + 1))
   ) else (
     o201 = .inr (a184, b185, c186, d_187, e_188, f189, g_190, h_191)
   )
def sha_Compress_l3 (a193 : BitVec 32) (b194 : BitVec 32) (c195 : BitVec 32) (d_196 : BitVec 32) (e_197 : BitVec 32) (f198 : BitVec 32) (g_199 : BitVec 32) (h_200 : BitVec 32) (s : (Nat × (Nat → BitVec 32))) (o250 : (Nat × (Nat → BitVec 32)) ⊕ (Nat → BitVec 32)) : Prop :=
 match s with
 | (t247, m248) =>
   if t247 < 8 then (
     o250 = .inl ((t247 + 1), (upd m248 t247 ((m248 t247) + ((lit [a193, b194, c195, d_196, e_197, f198, g_199, h_200]) t247))))
   ) else (
     o250 = .inr m248
   )
def sha_Compress (state1 : Nat → BitVec 32) (block2 : Nat → BitVec 8) (r : (Nat → BitVec 32)) : Prop :=
 ∃ m29 : Nat → BitVec 32, Iter (sha_Compress_l0 block2) (0, (fun _ => 0#32)) m29 ∧
 ∃ m91 : Nat → BitVec 32, Iter (sha_Compress_l1) (16, m29) m91 ∧
 ∃ a193 : BitVec 32, ∃ b194 : BitVec 32, ∃ c195 : BitVec 32, ∃ d_196 : BitVec 32, ∃ e_197 : BitVec 32, ∃ f198 : BitVec 32, ∃ g_199 : BitVec 32, ∃ h_200 : BitVec 32, Iter (sha_Compress_l2 m91) ((state1 0), (state1 1), (state1 2), (state1 3), (state1 4), (state1 5), (state1 6), (state1 7), 0) (a193, b194, c195, d_196, e_197, f198, g_199, h_200) ∧
 ∃ m249 : Nat → BitVec 32, Iter (sha_Compress_l3 a193 b194 c195 d_196 e_197 f198 g_199 h_200) (0, state1) m249 ∧
 r = m249
def sha_Hash_Write_l0  (s : ((List Byte) × (Nat → BitVec 32) × (Nat → BitVec 8) × Int)) (o63 : ((List Byte) × (Nat → BitVec 32) × (Nat → BitVec 8) × Int) ⊕ ((Nat → BitVec 32) × (Nat → BitVec 8) × Int)) : Prop :=
 match s with
 | (b56, m57, m58, m59) =>
   if 0 < b56.length then (
     (0 ≤ (m59.tmod 64)) ∧
     ((m59.tmod 64).toNat ≤ 64 ∧ 64 ≤ 64 ∧ (m59.tmod 64).toNat < 64) ∧
     ((min b56.length (64 - (m59.tmod 64).toNat)) ≤ b56.length ∧ b56.length ≤ b56.length) ∧
     (-9223372036854775808 ≤ (m59 + (((min b56.length (64 - (m59.tmod 64).toNat)) : Nat) : Int)) ∧ (m59 + (((min b56.length (64 - (m59.tmod 64).toNat)) : Nat) : Int)) ≤ 9223372036854775807) ∧
     if ((m59 + (((min b56.length (64 - (m59.tmod 64).toNat)) : Nat) : Int)).tmod 64) = 0 then (
       ∃ x_85 : Nat → BitVec 32, sha_Compress m57 (spl m58 ((m59.tmod 64).toNat) (min b56.length (64 - (m59.tmod 64).toNat)) (lit b56)) x_85 ∧
       o63 = .inl ((seg b56 (min b56.length (64 - (m59.tmod 64).toNat)) b56.length), x_85, (spl m58 ((m59.tmod 64).toNat) (min b56.length (64 - (m59.tmod 64).toNat)) (lit b56)), (m59 + (((min b56.length (64 - (m59.tmod 64).toNat)) : Nat) : Int)))
     ) else (
       o63 = .inl ((seg b56 (min b56.length (64 - (m59.tmod 64).toNat)) b56.length), m57, (spl m58 ((m59.tmod 64).toNat) (min b56.length (64 - (m59.tmod 64).toNat)) (lit b56)), (m59 + (((min b56.length (64 - (m59.tmod 64).toNat)) : Nat) : Int)))
     )
   ) else (
     o63 = .inr (m57, m58, m59)
   )
def sha_Hash_Write (hstate2 : Nat → BitVec 32) (hblock3 : Nat → BitVec 8) (hn4 : Int) (b5 : List Byte) (r : ((Nat → BitVec 32) × (Nat → BitVec 8) × Int)) : Prop :=
 ∃ m60 : Nat → BitVec 32, ∃ m61 : Nat → BitVec 8, ∃ m62 : Int, Iter (sha_Hash_Write_l0) (b5, hstate2, hblock3, hn4) (m60, m61, m62) ∧
 r = (m60, m61, m62)
def sha_Hash_Copy (hstate2 : Nat → BitVec 32) (hblock3 : Nat → BitVec 8) (hn4 : Int) (r : ((Nat → BitVec 32) × (Nat → BitVec 8) × Int)) : Prop :=
 r = (hstate2, hblock3, hn4)
def sha_Hash_Sum_l0  (s : ((Nat → BitVec 32) × (Nat → BitVec 8) × Int)) (o56 : ((Nat → BitVec 32) × (Nat → BitVec 8) × Int) ⊕ ((Nat → BitVec 32) × (Nat → BitVec 8) × Int)) : Prop :=
 match s with
 | (m50, m51, m52) =>
   if (m52.tmod 64) ≠ 56 then (
     ∃ x_66 : Nat → BitVec 32, ∃ x_67 : Nat → BitVec 8, ∃ x_68 : Int, sha_Hash_Write m50 m51 m52 ([0#8] : List Byte) (x_66, x_67, x_68) ∧
     o56 = .inl (x_66, x_67, x_68)
   ) else (
     o56 = .inr (m50, m51, m52)
   )
def sha_Hash_Sum_l1 (hn4 : Int) (s : (Nat × (Nat → BitVec 32) × (Nat → BitVec 8) × Int)) (o109 : (Nat × (Nat → BitVec 32) × (Nat → BitVec 8) × Int) ⊕ ((Nat → BitVec 32) × (Nat → BitVec 8) × Int)) : Prop :=
 match s with
 | (t102, m103, m104, m105) =>
   if t102 < 8 then (
     ∃ x_119 : Nat → BitVec 32, ∃ x_120 : Nat → BitVec 8, ∃ x_121 : Int, sha_Hash_Write m103 m104 m105 ([((((8#64) * (BitVec.ofInt 64 hn4)) >>> (56 - (8 * t102))).setWidth 8)] : List Byte) (x_119, x_120, x_121) ∧
     o109 = .inl ((t102 + 1), x_119, x_120, x_121)
   ) else (
     o109 = .inr (m103, m104, m105)
   )
def sha_Hash_Sum_l2 (m106 : Nat → BitVec 32) (s : (Nat × (Nat → BitVec 8))) (o152 : (Nat × (Nat → BitVec 8)) ⊕ (Nat → BitVec 8)) : Prop :=
 match s with
 | (t149, m150) =>
   if t149 < 8 then (
     o152 = .inl ((t149 + 1), (upd (upd (upd (upd m150 (4 * t149) (((m106 t149) >>> 24).setWidth 8)) ((4 * t149) + 1) (((m106 t149) >>> 16).setWidth 8)) ((4 * t149) + 2) (((m106 t149) >>> 8).setWidth 8)) ((4 * t149) + 3) ((m106 t149).setWidth 8)))
   ) else (
     o152 = .inr m150
   )
def sha_Hash_Sum (hstate2 : Nat → BitVec 32) (hblock3 : Nat → BitVec 8) (hn4 : Int) (r : (Nat → BitVec 8)) : Prop :=
 ∃ x_10 : Nat → BitVec 32, ∃ x_11 : Nat → BitVec 8, ∃ x_12 : Int, sha_Hash_Copy hstate2 hblock3 hn4 (x_10, x_11, x_12) ∧
 ∃ x_20 : Nat → BitVec 32, ∃ x_21 : Nat → BitVec 8, ∃ x_22 : Int, sha_Hash_Write x_10 x_11 x_12 ([128#8] : List Byte) (x_20, x_21, x_22) ∧
 ∃ m53 : Nat → BitVec 32, ∃ m54 : Nat → BitVec 8, ∃ m55 : Int, Iter (sha_Hash_Sum_l0) (x_20, x_21, x_22) (m53, m54, m55) ∧
 ∃ m106 : Nat → BitVec 32, ∃ m107 : Nat → BitVec 8, ∃ m108 : Int, Iter (sha_Hash_Sum_l1 hn4) (0, m53, m54, m55) (m106, m107, m108) ∧
 ∃ m151 : Nat → BitVec 8, Iter (sha_Hash_Sum_l2 m106) (0, (fun _ => 0#8)) m151 ∧
 r = m151
def sha_Sum_l0 (parts1 : List (List Byte)) (s : (Nat × (Nat → BitVec 32) × (Nat → BitVec 8) × Int)) (o49 : (Nat × (Nat → BitVec 32) × (Nat → BitVec 8) × Int) ⊕ ((Nat → BitVec 32) × (Nat → BitVec 8) × Int)) : Prop :=
 match s with
 | (t42, m43, m44, m45) =>
   if t42 < parts1.length then (
     (t42 < parts1.length) ∧
     ∃ x_59 : Nat → BitVec 32, ∃ x_60 : Nat → BitVec 8, ∃ x_61 : Int, sha_Hash_Write m43 m44 m45 (parts1.getD t42 []) (x_59, x_60, x_61) ∧
     ((t42 + 1) < 9223372036854775808) ∧
     o49 = .inl ((t42 + 1), x_59, x_60, x_61)
   ) else (
     o49 = .inr (m43, m44, m45)
   )
def sha_Sum (parts1 : List (List Byte)) (r : (Nat → BitVec 8)) : Prop :=
 ∃ x_6 : Nat → BitVec 32, ∃ x_7 : Nat → BitVec 8, ∃ x_8 : Nat, sha_New (x_6, x_7, x_8) ∧
 ∃ m46 : Nat → BitVec 32, ∃ m47 : Nat → BitVec 8, ∃ m48 : Int, Iter (sha_Sum_l0 parts1) (0, x_6, x_7, ((x_8 : Nat) : Int)) (m46, m47, m48) ∧
 ∃ x_67 : Nat → BitVec 8, sha_Hash_Sum m46 m47 m48 x_67 ∧
 r = x_67
end Go.Proofs.YtjclppnbbpnfnaaDoor
