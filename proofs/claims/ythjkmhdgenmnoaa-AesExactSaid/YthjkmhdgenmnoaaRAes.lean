/-
 RELATIONS of the package's functions, printed by this session's own program (auto.py).
-/
import Derived.Test.YthjkmhdgenmnoaaEc
namespace Go.Proofs.Ythjkmhdgenmnoaa
set_option linter.unusedSimpArgs false
set_option linter.unusedVariables false
set_option linter.unusedSectionVars false
open Go Go.LW
def aes_fill_1_l0 (inverse2 : BitVec 8) (s : ((BitVec 8) × Nat)) (o24 : ((BitVec 8) × Nat) ⊕ (BitVec 8)) : Prop :=
 match s with
 | (x_21, turn22) =>
   if turn22 ≤ 4 then (
     o24 = .inl ((x_21 ^^^ ((inverse2 <<< turn22) ||| (inverse2 >>> (8 - turn22)))), (turn22 + 1))
   ) else (
     o24 = .inr x_21
   )
def aes_fill_1 (a1 : BitVec 8) (inverse2 : BitVec 8) (abox4 : Nat → BitVec 8) (aback5 : Nat → BitVec 8) (atwo6 : Nat → BitVec 8) (r : ((Nat → BitVec 8) × (Nat → BitVec 8))) : Prop :=
 ∃ x_23 : BitVec 8, Iter (aes_fill_1_l0 inverse2) (inverse2, 1) x_23 ∧
 r = ((upd abox4 a1.toNat (x_23 ^^^ (99#8))), (upd aback5 ((x_23 ^^^ (99#8)).toNat) a1))
def aes_Mul_l0  (s : ((BitVec 8) × (BitVec 8) × (BitVec 8))) (o45 : ((BitVec 8) × (BitVec 8) × (BitVec 8)) ⊕ (BitVec 8)) : Prop :=
 match s with
 | (a41, b42, out43) =>
   if b42 ≠ 0#8 then (
     ∃ out54 : BitVec 8, (
       if (b42 &&& (1#8)) = 1#8 then (
         out54 = (out43 ^^^ a41)
       ) else (
         out54 = out43
       )
     ) ∧
     if (a41 &&& (128#8)) ≠ 0#8 then (
       o45 = .inl (((a41 <<< 1) ^^^ (27#8)), (b42 >>> 1), out54)
     ) else (
       o45 = .inl ((a41 <<< 1), (b42 >>> 1), out54)
     )
   ) else (
     o45 = .inr out43
   )
def aes_Mul (a1 : BitVec 8) (b2 : BitVec 8) (r : (BitVec 8)) : Prop :=
 ∃ out44 : BitVec 8, Iter (aes_Mul_l0) (a1, b2, 0#8) out44 ∧
 r = out44
def aes_fill_l0  (s : ((BitVec 8) × (BitVec 8) × Nat × (Nat → BitVec 8) × (Nat → BitVec 8))) (o56 : ((BitVec 8) × (BitVec 8) × Nat × (Nat → BitVec 8) × (Nat → BitVec 8)) ⊕ ((Nat → BitVec 8) × (Nat → BitVec 8))) : Prop :=
 match s with
 | (p49, q_50, t51, m52, m53) =>
   if t51 < 255 then (
     ∃ x_64 : Nat → BitVec 8, ∃ x_65 : Nat → BitVec 8, aes_fill_1 p49 q_50 m52 m53 (fun _ => 0#8) (x_64, x_65) ∧
     ∃ x_68 : BitVec 8, aes_Mul p49 (3#8) x_68 ∧
     ∃ x_71 : BitVec 8, aes_Mul q_50 (246#8) x_71 ∧
     o56 = .inl (x_68, x_71, (t51 + 1), x_64, x_65)
   ) else (
     o56 = .inr (m52, m53)
   )
def aes_fill_l1  (s : (Nat × (Nat → BitVec 8))) (o98 : (Nat × (Nat → BitVec 8)) ⊕ (Nat → BitVec 8)) : Prop :=
 match s with
 | (t95, m96) =>
   if t95 < 256 then (
     ∃ x_106 : BitVec 8, aes_Mul (BitVec.ofNat 8 t95) (2#8) x_106 ∧
     o98 = .inl ((t95 + 1), (upd m96 t95 x_106))
   ) else (
     o98 = .inr m96
   )
def aes_fill  (r : ((Nat → BitVec 8) × (Nat → BitVec 8) × (Nat → BitVec 8))) : Prop :=
 ∃ x_10 : Nat → BitVec 8, ∃ x_11 : Nat → BitVec 8, aes_fill_1 (0#8) (0#8) (fun _ => 0#8) (fun _ => 0#8) (fun _ => 0#8) (x_10, x_11) ∧
 ∃ m54 : Nat → BitVec 8, ∃ m55 : Nat → BitVec 8, Iter (aes_fill_l0) (1#8, 1#8, 0, x_10, x_11) (m54, m55) ∧
 ∃ m97 : Nat → BitVec 8, Iter (aes_fill_l1) (0, (fun _ => 0#8)) m97 ∧
 r = (m54, m55, m97)
def aes_Cipher_expand_l1 (t182 : Nat) (m218 : Nat → BitVec 8) (s : (Nat × (Nat → BitVec 8))) (o253 : (Nat × (Nat → BitVec 8)) ⊕ (Nat → BitVec 8)) : Prop :=
 match s with
 | (t250, m251) =>
   if t250 < 4 then (
     o253 = .inl ((t250 + 1), (upd m251 (t182 * 4 + t250) ((m251 ((t182 - 8) * 4 + t250)) ^^^ (m218 t250))))
   ) else (
     o253 = .inr m251
   )
def aes_Cipher_expand_l0 (ct3 : Nat → BitVec 8) (key6 : List Byte) (s : ((BitVec 8) × Nat × (Nat → BitVec 8))) (o185 : ((BitVec 8) × Nat × (Nat → BitVec 8)) ⊕ (Nat → BitVec 8)) : Prop :=
 match s with
 | (power181, t182, m183) =>
   if t182 < 60 then (
     if t182 < 8 then (
       ((4 * t182) ≤ key6.length ∧ key6.length ≤ key6.length) ∧
       o185 = .inl (power181, (t182 + 1), (spl m183 (t182 * 4) (min ((seg key6 (4 * t182) key6.length).length) 4) (lit (seg key6 (4 * t182) key6.length))))
     ) else (
       ∃ power217 : BitVec 8, ∃ m218 : Nat → BitVec 8, (
         if (t182 % 8) = 0 then (
           ∃ x_227 : BitVec 8, aes_Mul power181 (2#8) x_227 ∧
           power217 = x_227 ∧ m218 = (lit [((ct3 (((fun q => m183 (((t182 - 1) * 4) + q)) 1).toNat)) ^^^ power181), (ct3 (((fun q => m183 (((t182 - 1) * 4) + q)) 2).toNat)), (ct3 (((fun q => m183 (((t182 - 1) * 4) + q)) 3).toNat)), (ct3 (((fun q => m183 (((t182 - 1) * 4) + q)) 0).toNat))])
         ) else (
           if (t182 % 8) = 4 then (
             power217 = power181 ∧ m218 = (lit [(ct3 (((fun q => m183 (((t182 - 1) * 4) + q)) 0).toNat)), (ct3 (((fun q => m183 (((t182 - 1) * 4) + q)) 1).toNat)), (ct3 (((fun q => m183 (((t182 - 1) * 4) + q)) 2).toNat)), (ct3 (((fun q => m183 (((t182 - 1) * 4) + q)) 3).toNat))])
           ) else (
             power217 = power181 ∧ m218 = (fun q => m183 (((t182 - 1) * 4) + q))
           )
         )
       ) ∧
       ∃ m252 : Nat → BitVec 8, Iter (aes_Cipher_expand_l1 t182 m218) (0, m183) m252 ∧
       o185 = .inl (power217, (t182 + 1), m252)
     )
   ) else (
     o185 = .inr m183
   )
def aes_Cipher_expand_l2 (m184 : Nat → BitVec 8) (s : (Nat × (Nat → BitVec 8))) (o290 : (Nat × (Nat → BitVec 8)) ⊕ (Nat → BitVec 8)) : Prop :=
 match s with
 | (t287, m288) =>
   if t287 < 60 then (
     ((4 * (t287 % 4)) ≤ 16 ∧ 16 ≤ 16 ∧ (4 * (t287 % 4)) < 16) ∧
     o290 = .inl ((t287 + 1), (spl m288 ((t287 / 4) * 16 + (4 * (t287 % 4))) (min 4 (16 - (4 * (t287 % 4)))) (lit (dl 4 (fun q => m184 (t287 * 4 + q))))))
   ) else (
     o290 = .inr m288
   )
def aes_Cipher_expand (ckeys2 : Nat → BitVec 8) (ct3 : Nat → BitVec 8) (ct4 : Nat → BitVec 8) (ct5 : Nat → BitVec 8) (key6 : List Byte) (r : (Nat → BitVec 8)) : Prop :=
 ∃ m184 : Nat → BitVec 8, Iter (aes_Cipher_expand_l0 ct3 key6) (1#8, 0, (fun _ => 0#8)) m184 ∧
 ∃ m289 : Nat → BitVec 8, Iter (aes_Cipher_expand_l2 m184) (0, ckeys2) m289 ∧
 r = m289
def aes_New (key1 : List Byte) (r : Nat ⊕ ((Nat → BitVec 8) × (Nat → BitVec 8) × (Nat → BitVec 8) × (Nat → BitVec 8) × Nat)) : Prop :=
 if key1.length ≠ 32 then (
   r = (.inl 40)
 ) else (
   ∃ x_9 : Nat → BitVec 8, ∃ x_10 : Nat → BitVec 8, ∃ x_11 : Nat → BitVec 8, aes_fill (x_9, x_10, x_11) ∧
   ∃ x_16 : Nat → BitVec 8, aes_Cipher_expand (fun _ => 0#8) x_9 x_10 x_11 key1 x_16 ∧
   r = (.inr (x_16, x_9, x_10, x_11, 0))
 )
def aes_Box (a1 : BitVec 8) (r : (BitVec 8)) : Prop :=
 ∃ x_5 : Nat → BitVec 8, ∃ x_6 : Nat → BitVec 8, ∃ x_7 : Nat → BitVec 8, aes_fill (x_5, x_6, x_7) ∧
 r = (x_5 a1.toNat)
def aes_Unbox (a1 : BitVec 8) (r : (BitVec 8)) : Prop :=
 ∃ x_5 : Nat → BitVec 8, ∃ x_6 : Nat → BitVec 8, ∃ x_7 : Nat → BitVec 8, aes_fill (x_5, x_6, x_7) ∧
 r = (x_6 a1.toNat)
def aes_Next_l0  (s : ((BitVec 64) × (BitVec 64) × Int × (Nat → BitVec 8))) (o51 : ((BitVec 64) × (BitVec 64) × Int × (Nat → BitVec 8)) ⊕ (Nat → BitVec 8)) : Prop :=
 match s with
 | (n_46, carry47, i_48, m49) =>
   if 0 ≤ i_48 then (
     (0 ≤ i_48 ∧ i_48 < 16) ∧
     (0 ≤ i_48 ∧ i_48 < 16) ∧
     (-9223372036854775808 ≤ (i_48 - 1) ∧ (i_48 - 1) ≤ 9223372036854775807) ∧
     o51 = .inl ((n_46 >>> 8), (((((m49 i_48.toNat).setWidth 64) + (n_46 &&& (255#64))) + carry47) >>> 8), (i_48 - 1), (upd m49 i_48.toNat (((((m49 i_48.toNat).setWidth 64) + (n_46 &&& (255#64))) + carry47).setWidth 8)))
   ) else (
     o51 = .inr m49
   )
def aes_Next (block1 : Nat → BitVec 8) (n_2 : BitVec 64) (r : (Nat → BitVec 8)) : Prop :=
 ∃ m50 : Nat → BitVec 8, Iter (aes_Next_l0) (n_2, 0#64, 15, block1) m50 ∧
 r = m50
def aes_Cipher_add_l0 (ckeys2 : Nat → BitVec 8) (round8 : Int) (s : (Nat × (Nat → BitVec 8))) (o29 : (Nat × (Nat → BitVec 8)) ⊕ (Nat → BitVec 8)) : Prop :=
 match s with
 | (t26, m27) =>
   if t26 < 16 then (
     o29 = .inl ((t26 + 1), (upd m27 t26 ((m27 t26) ^^^ ((fun q => ckeys2 ((round8.toNat * 16) + q)) t26))))
   ) else (
     o29 = .inr m27
   )
def aes_Cipher_add (ckeys2 : Nat → BitVec 8) (ct3 : Nat → BitVec 8) (ct4 : Nat → BitVec 8) (ct5 : Nat → BitVec 8) (s7 : Nat → BitVec 8) (round8 : Int) (r : (Nat → BitVec 8)) : Prop :=
 (0 ≤ round8 ∧ round8 < 15) ∧
 ∃ m28 : Nat → BitVec 8, Iter (aes_Cipher_add_l0 ckeys2 round8) (0, s7) m28 ∧
 r = m28
def aes_Cipher_mix_l0 (ct5 : Nat → BitVec 8) (s : (Nat × (Nat → BitVec 8))) (o56 : (Nat × (Nat → BitVec 8)) ⊕ (Nat → BitVec 8)) : Prop :=
 match s with
 | (i_53, m54) =>
   if i_53 < 16 then (
     ((i_53 + 1) < 16) ∧
     ((i_53 + 2) < 16) ∧
     ((i_53 + 3) < 16) ∧
     ((i_53 + 1) < 16) ∧
     ((i_53 + 2) < 16) ∧
     ((i_53 + 3) < 16) ∧
     o56 = .inl ((i_53 + 4), (upd (upd (upd (upd m54 i_53 (((m54 i_53) ^^^ ((((m54 i_53) ^^^ (m54 (i_53 + 1))) ^^^ (m54 (i_53 + 2))) ^^^ (m54 (i_53 + 3)))) ^^^ (ct5 (((m54 i_53) ^^^ (m54 (i_53 + 1))).toNat)))) (i_53 + 1) (((m54 (i_53 + 1)) ^^^ ((((m54 i_53) ^^^ (m54 (i_53 + 1))) ^^^ (m54 (i_53 + 2))) ^^^ (m54 (i_53 + 3)))) ^^^ (ct5 (((m54 (i_53 + 1)) ^^^ (m54 (i_53 + 2))).toNat)))) (i_53 + 2) (((m54 (i_53 + 2)) ^^^ ((((m54 i_53) ^^^ (m54 (i_53 + 1))) ^^^ (m54 (i_53 + 2))) ^^^ (m54 (i_53 + 3)))) ^^^ (ct5 (((m54 (i_53 + 2)) ^^^ (m54 (i_53 + 3))).toNat)))) (i_53 + 3) (((m54 (i_53 + 3)) ^^^ ((((m54 i_53) ^^^ (m54 (i_53 + 1))) ^^^ (m54 (i_53 + 2))) ^^^ (m54 (i_53 + 3)))) ^^^ (ct5 (((m54 (i_53 + 3)) ^^^ (m54 i_53)).toNat)))))
   ) else (
     o56 = .inr m54
   )
def aes_Cipher_mix (ckeys2 : Nat → BitVec 8) (ct3 : Nat → BitVec 8) (ct4 : Nat → BitVec 8) (ct5 : Nat → BitVec 8) (s7 : Nat → BitVec 8) (r : (Nat → BitVec 8)) : Prop :=
 ∃ m55 : Nat → BitVec 8, Iter (aes_Cipher_mix_l0 ct5) (0, s7) m55 ∧
 r = m55
def aes_Cipher_Encrypt_l1 (ct3 : Nat → BitVec 8) (m134 : Nat → BitVec 8) (s : (Nat × (Nat → BitVec 8))) (o165 : (Nat × (Nat → BitVec 8)) ⊕ (Nat → BitVec 8)) : Prop :=
 match s with
 | (t162, m163) =>
   if t162 < 16 then (
     o165 = .inl ((t162 + 1), (upd m163 t162 (ct3 ((m134 ((t162 + (4 * (t162 % 4))) % 16)).toNat))))
   ) else (
     o165 = .inr m163
   )
def aes_Cipher_Encrypt_l0 (ckeys2 : Nat → BitVec 8) (ct3 : Nat → BitVec 8) (ct4 : Nat → BitVec 8) (ct5 : Nat → BitVec 8) (s : (Nat × (Nat → BitVec 8))) (o136 : (Nat × (Nat → BitVec 8)) ⊕ (Nat → BitVec 8)) : Prop :=
 match s with
 | (round133, m134) =>
   if round133 ≤ 14 then (
     ∃ m164 : Nat → BitVec 8, Iter (aes_Cipher_Encrypt_l1 ct3 m134) (0, (fun _ => 0#8)) m164 ∧
     ∃ m182 : Nat → BitVec 8, (
       if round133 < 14 then (
         ∃ x_188 : Nat → BitVec 8, aes_Cipher_mix ckeys2 ct3 ct4 ct5 m164 x_188 ∧
         m182 = x_188
       ) else (
         m182 = m164
       )
     ) ∧
     ∃ x_196 : Nat → BitVec 8, aes_Cipher_add ckeys2 ct3 ct4 ct5 m182 ((round133 : Nat) : Int) x_196 ∧
     o136 = .inl ((round133 + 1), x_196)
   ) else (
     o136 = .inr m134
   )
def aes_Cipher_Encrypt (ckeys2 : Nat → BitVec 8) (ct3 : Nat → BitVec 8) (ct4 : Nat → BitVec 8) (ct5 : Nat → BitVec 8) (block6 : Nat → BitVec 8) (r : (Nat → BitVec 8)) : Prop :=
 ∃ x_16 : Nat → BitVec 8, aes_Cipher_add ckeys2 ct3 ct4 ct5 block6 0 x_16 ∧
 ∃ m135 : Nat → BitVec 8, Iter (aes_Cipher_Encrypt_l0 ckeys2 ct3 ct4 ct5) (1, x_16) m135 ∧
 r = m135
def aes_Cipher_Decrypt_l1 (ct4 : Nat → BitVec 8) (m238 : Nat → BitVec 8) (s : (Nat × (Nat → BitVec 8))) (o276 : (Nat × (Nat → BitVec 8)) ⊕ (Nat → BitVec 8)) : Prop :=
 match s with
 | (t273, m274) =>
   if t273 < 16 then (
     o276 = .inl ((t273 + 1), (upd m274 ((t273 + (4 * (t273 % 4))) % 16) (ct4 ((m238 t273).toNat))))
   ) else (
     o276 = .inr m274
   )
def aes_Cipher_Decrypt_l0 (ckeys2 : Nat → BitVec 8) (ct3 : Nat → BitVec 8) (ct4 : Nat → BitVec 8) (ct5 : Nat → BitVec 8) (s : (Int × (Nat → BitVec 8))) (o212 : (Int × (Nat → BitVec 8)) ⊕ (Nat → BitVec 8)) : Prop :=
 match s with
 | (round209, m210) =>
   if 1 ≤ round209 then (
     ∃ x_222 : Nat → BitVec 8, aes_Cipher_add ckeys2 ct3 ct4 ct5 m210 round209 x_222 ∧
     ∃ m238 : Nat → BitVec 8, (
       if round209 < 14 then (
         ∃ x_244 : Nat → BitVec 8, aes_Cipher_mix ckeys2 ct3 ct4 ct5 x_222 x_244 ∧
         ∃ x_248 : Nat → BitVec 8, aes_Cipher_mix ckeys2 ct3 ct4 ct5 x_244 x_248 ∧
         ∃ x_251 : Nat → BitVec 8, aes_Cipher_mix ckeys2 ct3 ct4 ct5 x_248 x_251 ∧
         m238 = x_251
       ) else (
         m238 = x_222
       )
     ) ∧
     ∃ m275 : Nat → BitVec 8, Iter (aes_Cipher_Decrypt_l1 ct4 m238) (0, (fun _ => 0#8)) m275 ∧
     (-9223372036854775808 ≤ (round209 - 1) ∧ (round209 - 1) ≤ 9223372036854775807) ∧
     o212 = .inl ((round209 - 1), m275)
   ) else (
     o212 = .inr m210
   )
def aes_Cipher_Decrypt (ckeys2 : Nat → BitVec 8) (ct3 : Nat → BitVec 8) (ct4 : Nat → BitVec 8) (ct5 : Nat → BitVec 8) (block6 : Nat → BitVec 8) (r : (Nat → BitVec 8)) : Prop :=
 ∃ m211 : Nat → BitVec 8, Iter (aes_Cipher_Decrypt_l0 ckeys2 ct3 ct4 ct5) (14, block6) m211 ∧
 ∃ x_293 : Nat → BitVec 8, aes_Cipher_add ckeys2 ct3 ct4 ct5 m211 0 x_293 ∧
 r = x_293
def aes_Cipher_Stream_l1 (text7 : List Byte) (at_143 : Nat) (x_155 : Nat → BitVec 8) (s : ((List Byte) × Nat)) (o190 : ((List Byte) × Nat) ⊕ (List Byte)) : Prop :=
 match s with
 | (out187, t188) =>
   if ((t188 : Nat) : Int) < (min 16 ((((([] : List Byte) ++ text7).length : Nat) : Int) - ((at_143 : Nat) : Int))) then (
     ((at_143 + t188) < 9223372036854775808) ∧
     ((at_143 + t188) < (([] : List Byte) ++ text7).length) ∧
     ((at_143 + t188) < (([] : List Byte) ++ text7).length) ∧
     o190 = .inl ((out187.set (at_143 + t188) ((lit out187 (at_143 + t188)) ^^^ (x_155 t188))), (t188 + 1))
   ) else (
     o190 = .inr out187
   )
def aes_Cipher_Stream_l0 (ckeys2 : Nat → BitVec 8) (ct3 : Nat → BitVec 8) (ct4 : Nat → BitVec 8) (ct5 : Nat → BitVec 8) (text7 : List Byte) (s : ((List Byte) × Nat × (Nat → BitVec 8))) (o146 : ((List Byte) × Nat × (Nat → BitVec 8)) ⊕ (List Byte)) : Prop :=
 match s with
 | (out142, at_143, m144) =>
   if at_143 < (([] : List Byte) ++ text7).length then (
     ∃ x_155 : Nat → BitVec 8, aes_Cipher_Encrypt ckeys2 ct3 ct4 ct5 m144 x_155 ∧
     (-9223372036854775808 ≤ ((((([] : List Byte) ++ text7).length : Nat) : Int) - ((at_143 : Nat) : Int)) ∧ ((((([] : List Byte) ++ text7).length : Nat) : Int) - ((at_143 : Nat) : Int)) ≤ 9223372036854775807) ∧
     ∃ out189 : List Byte, Iter (aes_Cipher_Stream_l1 text7 at_143 x_155) (out142, 0) out189 ∧
     ∃ x_207 : Nat → BitVec 8, aes_Next m144 (1#64) x_207 ∧
     ((at_143 + 16) < 9223372036854775808) ∧
     o146 = .inl (out189, (at_143 + 16), x_207)
   ) else (
     o146 = .inr out142
   )
def aes_Cipher_Stream (ckeys2 : Nat → BitVec 8) (ct3 : Nat → BitVec 8) (ct4 : Nat → BitVec 8) (ct5 : Nat → BitVec 8) (first6 : Nat → BitVec 8) (text7 : List Byte) (r : (List Byte)) : Prop :=
 (0 + text7.length ≤ 140737488355328) ∧
 ∃ out145 : List Byte, Iter (aes_Cipher_Stream_l0 ckeys2 ct3 ct4 ct5 text7) ((([] : List Byte) ++ text7), 0, first6) out145 ∧
 r = out145
def aes_Cipher_Wipe (ckeys2 : Nat → BitVec 8) (ct3 : Nat → BitVec 8) (ct4 : Nat → BitVec 8) (ct5 : Nat → BitVec 8) (r : (Nat → BitVec 8)) : Prop :=
 ∃ x_9 : Nat → BitVec 8, aes_Cipher_expand ckeys2 ct3 ct4 ct5 (List.replicate 32 0#8) x_9 ∧
 r = x_9
end Go.Proofs.Ythjkmhdgenmnoaa
