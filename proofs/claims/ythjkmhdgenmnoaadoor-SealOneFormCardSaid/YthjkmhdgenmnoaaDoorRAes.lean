/-
  RELATIONS of the package's functions, printed by this session's own program (auto.py).
-/
import Derived.Test.YthjkmhdgenmnoaaDoorLx6
import Derived.Test.YthjkmhdgenmnoaaDoorShaM
namespace Go.Proofs.YthjkmhdgenmnoaaDoor
set_option linter.unusedSimpArgs false
set_option linter.unusedVariables false
set_option linter.unusedSectionVars false
open Go Go.LW

def aes_fill_1_l0 (inverse2 : BitVec 8) (s : ((BitVec 8) × Nat)) (o25 : ((BitVec 8) × Nat) ⊕ (BitVec 8)) : Prop :=
  match s with
  | (x_22, turn23) =>
    if turn23 ≤ 4 then (
      o25 = .inl ((x_22 ^^^ ((inverse2 <<< turn23) ||| (inverse2 >>> (8 - turn23)))), (turn23 + 1))
    ) else (
      o25 = .inr x_22
    )
def aes_fill_1 (a1 : BitVec 8) (inverse2 : BitVec 8) (abox4 : Nat → BitVec 8) (aback5 : Nat → BitVec 8) (atwo6 : Nat → BitVec 8) (r : ((Nat → BitVec 8) × (Nat → BitVec 8))) : Prop :=
  ∃ x_24 : BitVec 8, Iter (aes_fill_1_l0 inverse2) (inverse2, 1) x_24 ∧
  r = ((upd abox4 a1.toNat (x_24 ^^^ (99#8))), (upd aback5 ((x_24 ^^^ (99#8)).toNat) a1))

def aes_Mul_l0  (s : ((BitVec 8) × (BitVec 8) × (BitVec 8))) (o45 : ((BitVec 8) × (BitVec 8) × (BitVec 8)) ⊕ (BitVec 8)) : Prop :=
  match s with
  | (a41, b42, out43) =>
    if b42 ≠ 0#8 then (
      ∃ out54 : BitVec 8, (
        if (b42 &&& (1#8)) = 1#8 then (
          out54 = (out43 ^^^ a41)
        ) else (
          out54 = out43
        )
      ) ∧
      if (a41 &&& (128#8)) ≠ 0#8 then (
        o45 = .inl (((a41 <<< 1) ^^^ (27#8)), (b42 >>> 1), out54)
      ) else (
        o45 = .inl ((a41 <<< 1), (b42 >>> 1), out54)
      )
    ) else (
      o45 = .inr out43
    )
def aes_Mul (a1 : BitVec 8) (b2 : BitVec 8) (r : (BitVec 8)) : Prop :=
  ∃ out44 : BitVec 8, Iter (aes_Mul_l0) (a1, b2, 0#8) out44 ∧
  r = out44

def aes_fill_l0  (s : ((BitVec 8) × (BitVec 8) × Nat × (Nat → BitVec 8) × (Nat → BitVec 8))) (o57 : ((BitVec 8) × (BitVec 8) × Nat × (Nat → BitVec 8) × (Nat → BitVec 8)) ⊕ ((Nat → BitVec 8) × (Nat → BitVec 8))) : Prop :=
  match s with
  | (p50, q_51, t52, m53, m54) =>
    if t52 < 255 then (
      ∃ x_65 : Nat → BitVec 8, ∃ x_66 : Nat → BitVec 8, aes_fill_1 p50 q_51 m53 m54 (fun _ => 0#8) (x_65, x_66) ∧
      ∃ x_69 : BitVec 8, aes_Mul p50 (3#8) x_69 ∧
      ∃ x_72 : BitVec 8, aes_Mul q_51 (246#8) x_72 ∧
      o57 = .inl (x_69, x_72, (t52 + 1), x_65, x_66)
    ) else (
      o57 = .inr (m53, m54)
    )
def aes_fill_l1  (s : (Nat × (Nat → BitVec 8))) (o100 : (Nat × (Nat → BitVec 8)) ⊕ (Nat → BitVec 8)) : Prop :=
  match s with
  | (t97, m98) =>
    if t97 < 256 then (
      ∃ x_108 : BitVec 8, aes_Mul (BitVec.ofNat 8 t97) (2#8) x_108 ∧
      o100 = .inl ((t97 + 1), (upd m98 t97 x_108))
    ) else (
      o100 = .inr m98
    )
def aes_fill  (r : ((Nat → BitVec 8) × (Nat → BitVec 8) × (Nat → BitVec 8))) : Prop :=
  ∃ x_10 : Nat → BitVec 8, ∃ x_11 : Nat → BitVec 8, aes_fill_1 (0#8) (0#8) (fun _ => 0#8) (fun _ => 0#8) (fun _ => 0#8) (x_10, x_11) ∧
  ∃ m55 : Nat → BitVec 8, ∃ m56 : Nat → BitVec 8, Iter (aes_fill_l0) (1#8, 1#8, 0, x_10, x_11) (m55, m56) ∧
  ∃ m99 : Nat → BitVec 8, Iter (aes_fill_l1) (0, (fun _ => 0#8)) m99 ∧
  r = (m55, m56, m99)

def aes_Cipher_expand_l1 (t175 : Nat) (m211 : Nat → BitVec 8) (s : (Nat × (Nat → BitVec 8))) (o247 : (Nat × (Nat → BitVec 8)) ⊕ (Nat → BitVec 8)) : Prop :=
  match s with
  | (t244, m245) =>
    if t244 < 4 then (
      o247 = .inl ((t244 + 1), (upd m245 (t175 * 4 + t244) ((m245 ((t175 - 8) * 4 + t244)) ^^^ (m211 t244))))
    ) else (
      o247 = .inr m245
    )
def aes_Cipher_expand_l0 (ct3 : Nat → BitVec 8) (key6 : List Byte) (s : ((BitVec 8) × Nat × (Nat → BitVec 8))) (o178 : ((BitVec 8) × Nat × (Nat → BitVec 8)) ⊕ (Nat → BitVec 8)) : Prop :=
  match s with
  | (power174, t175, m176) =>
    if t175 < 60 then (
      if t175 < 8 then (
        ((4 * t175) ≤ key6.length ∧ key6.length ≤ key6.length) ∧
        o178 = .inl (power174, (t175 + 1), (spl m176 (t175 * 4) (min ((seg key6 (4 * t175) key6.length).length) 4) (lit (seg key6 (4 * t175) key6.length))))
      ) else (
        ∃ power210 : BitVec 8, ∃ m211 : Nat → BitVec 8, (
          if (t175 % 8) = 0 then (
            ∃ x_220 : BitVec 8, aes_Mul power174 (2#8) x_220 ∧
            power210 = x_220 ∧ m211 = (lit [((ct3 (((fun q => m176 (((t175 - 1) * 4) + q)) 1).toNat)) ^^^ power174), (ct3 (((fun q => m176 (((t175 - 1) * 4) + q)) 2).toNat)), (ct3 (((fun q => m176 (((t175 - 1) * 4) + q)) 3).toNat)), (ct3 (((fun q => m176 (((t175 - 1) * 4) + q)) 0).toNat))])
          ) else (
            if (t175 % 8) = 4 then (
              power210 = power174 ∧ m211 = (lit [(ct3 (((fun q => m176 (((t175 - 1) * 4) + q)) 0).toNat)), (ct3 (((fun q => m176 (((t175 - 1) * 4) + q)) 1).toNat)), (ct3 (((fun q => m176 (((t175 - 1) * 4) + q)) 2).toNat)), (ct3 (((fun q => m176 (((t175 - 1) * 4) + q)) 3).toNat))])
            ) else (
              power210 = power174 ∧ m211 = (fun q => m176 (((t175 - 1) * 4) + q))
            )
          )
        ) ∧
        ∃ m246 : Nat → BitVec 8, Iter (aes_Cipher_expand_l1 t175 m211) (0, m176) m246 ∧
        o178 = .inl (power210, (t175 + 1), m246)
      )
    ) else (
      o178 = .inr m176
    )
def aes_Cipher_expand_l2 (m177 : Nat → BitVec 8) (s : (Nat × (Nat → BitVec 8))) (o285 : (Nat × (Nat → BitVec 8)) ⊕ (Nat → BitVec 8)) : Prop :=
  match s with
  | (t282, m283) =>
    if t282 < 60 then (
      ((4 * (t282 % 4)) ≤ 16 ∧ 16 ≤ 16 ∧ (4 * (t282 % 4)) < 16) ∧
      o285 = .inl ((t282 + 1), (spl m283 ((t282 / 4) * 16 + (4 * (t282 % 4))) (min 4 (16 - (4 * (t282 % 4)))) (lit (dl 4 (fun q => m177 (t282 * 4 + q))))))
    ) else (
      o285 = .inr m283
    )
def aes_Cipher_expand (ckeys2 : Nat → BitVec 8) (ct3 : Nat → BitVec 8) (ct4 : Nat → BitVec 8) (ct5 : Nat → BitVec 8) (key6 : List Byte) (r : (Nat → BitVec 8)) : Prop :=
  ∃ m177 : Nat → BitVec 8, Iter (aes_Cipher_expand_l0 ct3 key6) (1#8, 0, (fun _ => 0#8)) m177 ∧
  ∃ m284 : Nat → BitVec 8, Iter (aes_Cipher_expand_l2 m177) (0, ckeys2) m284 ∧
  r = m284

def aes_New (key1 : List Byte) (r : Nat ⊕ ((Nat → BitVec 8) × (Nat → BitVec 8) × (Nat → BitVec 8) × (Nat → BitVec 8) × Nat)) : Prop :=
  if key1.length ≠ 32 then (
    r = (.inl 40)
  ) else (
    ∃ x_9 : Nat → BitVec 8, ∃ x_10 : Nat → BitVec 8, ∃ x_11 : Nat → BitVec 8, aes_fill (x_9, x_10, x_11) ∧
    ∃ x_16 : Nat → BitVec 8, aes_Cipher_expand (fun _ => 0#8) x_9 x_10 x_11 key1 x_16 ∧
    r = (.inr (x_16, x_9, x_10, x_11, 0))
  )

def aes_Cipher_add_l0 (ckeys2 : Nat → BitVec 8) (round8 : Int) (s : (Nat × (Nat → BitVec 8))) (o30 : (Nat × (Nat → BitVec 8)) ⊕ (Nat → BitVec 8)) : Prop :=
  match s with
  | (t27, m28) =>
    if t27 < 16 then (
      o30 = .inl ((t27 + 1), (upd m28 t27 ((m28 t27) ^^^ ((fun q => ckeys2 ((round8.toNat * 16) + q)) t27))))
    ) else (
      o30 = .inr m28
    )
def aes_Cipher_add (ckeys2 : Nat → BitVec 8) (ct3 : Nat → BitVec 8) (ct4 : Nat → BitVec 8) (ct5 : Nat → BitVec 8) (s7 : Nat → BitVec 8) (round8 : Int) (r : (Nat → BitVec 8)) : Prop :=
  (0 ≤ round8 ∧ round8 < 15) ∧
  ∃ m29 : Nat → BitVec 8, Iter (aes_Cipher_add_l0 ckeys2 round8) (0, s7) m29 ∧
  r = m29

def aes_Cipher_mix_l0 (ct5 : Nat → BitVec 8) (s : (Nat × (Nat → BitVec 8))) (o57 : (Nat × (Nat → BitVec 8)) ⊕ (Nat → BitVec 8)) : Prop :=
  match s with
  | (i_54, m55) =>
    if i_54 < 16 then (
      ((i_54 + 1) < 16) ∧
      ((i_54 + 2) < 16) ∧
      ((i_54 + 3) < 16) ∧
      ((i_54 + 1) < 16) ∧
      ((i_54 + 2) < 16) ∧
      ((i_54 + 3) < 16) ∧
      o57 = .inl ((i_54 + 4), (upd (upd (upd (upd m55 i_54 (((m55 i_54) ^^^ ((((m55 i_54) ^^^ (m55 (i_54 + 1))) ^^^ (m55 (i_54 + 2))) ^^^ (m55 (i_54 + 3)))) ^^^ (ct5 (((m55 i_54) ^^^ (m55 (i_54 + 1))).toNat)))) (i_54 + 1) (((m55 (i_54 + 1)) ^^^ ((((m55 i_54) ^^^ (m55 (i_54 + 1))) ^^^ (m55 (i_54 + 2))) ^^^ (m55 (i_54 + 3)))) ^^^ (ct5 (((m55 (i_54 + 1)) ^^^ (m55 (i_54 + 2))).toNat)))) (i_54 + 2) (((m55 (i_54 + 2)) ^^^ ((((m55 i_54) ^^^ (m55 (i_54 + 1))) ^^^ (m55 (i_54 + 2))) ^^^ (m55 (i_54 + 3)))) ^^^ (ct5 (((m55 (i_54 + 2)) ^^^ (m55 (i_54 + 3))).toNat)))) (i_54 + 3) (((m55 (i_54 + 3)) ^^^ ((((m55 i_54) ^^^ (m55 (i_54 + 1))) ^^^ (m55 (i_54 + 2))) ^^^ (m55 (i_54 + 3)))) ^^^ (ct5 (((m55 (i_54 + 3)) ^^^ (m55 i_54)).toNat)))))
    ) else (
      o57 = .inr m55
    )
def aes_Cipher_mix (ckeys2 : Nat → BitVec 8) (ct3 : Nat → BitVec 8) (ct4 : Nat → BitVec 8) (ct5 : Nat → BitVec 8) (s7 : Nat → BitVec 8) (r : (Nat → BitVec 8)) : Prop :=
  ∃ m56 : Nat → BitVec 8, Iter (aes_Cipher_mix_l0 ct5) (0, s7) m56 ∧
  r = m56

def aes_Cipher_Encrypt_l1 (ct3 : Nat → BitVec 8) (m143 : Nat → BitVec 8) (s : (Nat × (Nat → BitVec 8))) (o175 : (Nat × (Nat → BitVec 8)) ⊕ (Nat → BitVec 8)) : Prop :=
  match s with
  | (t172, m173) =>
    if t172 < 16 then (
      o175 = .inl ((t172 + 1), (upd m173 t172 (ct3 ((m143 ((t172 + (4 * (t172 % 4))) % 16)).toNat))))
    ) else (
      o175 = .inr m173
    )
def aes_Cipher_Encrypt_l0 (ckeys2 : Nat → BitVec 8) (ct3 : Nat → BitVec 8) (ct4 : Nat → BitVec 8) (ct5 : Nat → BitVec 8) (s : (Nat × (Nat → BitVec 8))) (o145 : (Nat × (Nat → BitVec 8)) ⊕ (Nat → BitVec 8)) : Prop :=
  match s with
  | (round142, m143) =>
    if round142 ≤ 14 then (
      ∃ m174 : Nat → BitVec 8, Iter (aes_Cipher_Encrypt_l1 ct3 m143) (0, (fun _ => 0#8)) m174 ∧
      ∃ m192 : Nat → BitVec 8, (
        if round142 < 14 then (
          ∃ x_198 : Nat → BitVec 8, aes_Cipher_mix ckeys2 ct3 ct4 ct5 m174 x_198 ∧
          m192 = x_198
        ) else (
          m192 = m174
        )
      ) ∧
      ∃ x_206 : Nat → BitVec 8, aes_Cipher_add ckeys2 ct3 ct4 ct5 m192 ((round142 : Nat) : Int) x_206 ∧
      o145 = .inl ((round142 + 1), x_206)
    ) else (
      o145 = .inr m143
    )
def aes_Cipher_Encrypt (ckeys2 : Nat → BitVec 8) (ct3 : Nat → BitVec 8) (ct4 : Nat → BitVec 8) (ct5 : Nat → BitVec 8) (block6 : Nat → BitVec 8) (r : (Nat → BitVec 8)) : Prop :=
  ∃ x_16 : Nat → BitVec 8, aes_Cipher_add ckeys2 ct3 ct4 ct5 block6 0 x_16 ∧
  ∃ m144 : Nat → BitVec 8, Iter (aes_Cipher_Encrypt_l0 ckeys2 ct3 ct4 ct5) (1, x_16) m144 ∧
  r = m144

def aes_Next_l0  (s : ((BitVec 64) × (BitVec 64) × Int × (Nat → BitVec 8))) (o52 : ((BitVec 64) × (BitVec 64) × Int × (Nat → BitVec 8)) ⊕ (Nat → BitVec 8)) : Prop :=
  match s with
  | (n_47, carry48, i_49, m50) =>
    if 0 ≤ i_49 then (
      (0 ≤ i_49 ∧ i_49 < 16) ∧
      (0 ≤ i_49 ∧ i_49 < 16) ∧
      (-9223372036854775808 ≤ (i_49 - 1) ∧ (i_49 - 1) ≤ 9223372036854775807) ∧
      o52 = .inl ((n_47 >>> 8), (((((m50 i_49.toNat).setWidth 64) + (n_47 &&& (255#64))) + carry48) >>> 8), (i_49 - 1), (upd m50 i_49.toNat (((((m50 i_49.toNat).setWidth 64) + (n_47 &&& (255#64))) + carry48).setWidth 8)))
    ) else (
      o52 = .inr m50
    )
def aes_Next (block1 : Nat → BitVec 8) (n_2 : BitVec 64) (r : (Nat → BitVec 8)) : Prop :=
  ∃ m51 : Nat → BitVec 8, Iter (aes_Next_l0) (n_2, 0#64, 15, block1) m51 ∧
  r = m51

def aes_Cipher_Stream_l1 (text7 : List Byte) (at_143 : Nat) (x_155 : Nat → BitVec 8) (s : ((List Byte) × Nat)) (o190 : ((List Byte) × Nat) ⊕ (List Byte)) : Prop :=
  match s with
  | (out187, t188) =>
    if ((t188 : Nat) : Int) < (min 16 ((((([] : List Byte) ++ text7).length : Nat) : Int) - ((at_143 : Nat) : Int))) then (
      ((at_143 + t188) < 9223372036854775808) ∧
      ((at_143 + t188) < (([] : List Byte) ++ text7).length) ∧
      ((at_143 + t188) < (([] : List Byte) ++ text7).length) ∧
      o190 = .inl ((out187.set (at_143 + t188) ((lit out187 (at_143 + t188)) ^^^ (x_155 t188))), (t188 + 1))
    ) else (
      o190 = .inr out187
    )
def aes_Cipher_Stream_l0 (ckeys2 : Nat → BitVec 8) (ct3 : Nat → BitVec 8) (ct4 : Nat → BitVec 8) (ct5 : Nat → BitVec 8) (text7 : List Byte) (s : ((List Byte) × Nat × (Nat → BitVec 8))) (o146 : ((List Byte) × Nat × (Nat → BitVec 8)) ⊕ (List Byte)) : Prop :=
  match s with
  | (out142, at_143, m144) =>
    if at_143 < (([] : List Byte) ++ text7).length then (
      ∃ x_155 : Nat → BitVec 8, aes_Cipher_Encrypt ckeys2 ct3 ct4 ct5 m144 x_155 ∧
      (-9223372036854775808 ≤ ((((([] : List Byte) ++ text7).length : Nat) : Int) - ((at_143 : Nat) : Int)) ∧ ((((([] : List Byte) ++ text7).length : Nat) : Int) - ((at_143 : Nat) : Int)) ≤ 9223372036854775807) ∧
      ∃ out189 : List Byte, Iter (aes_Cipher_Stream_l1 text7 at_143 x_155) (out142, 0) out189 ∧
      ∃ x_207 : Nat → BitVec 8, aes_Next m144 (1#64) x_207 ∧
      ((at_143 + 16) < 9223372036854775808) ∧
      o146 = .inl (out189, (at_143 + 16), x_207)
    ) else (
      o146 = .inr out142
    )
def aes_Cipher_Stream (ckeys2 : Nat → BitVec 8) (ct3 : Nat → BitVec 8) (ct4 : Nat → BitVec 8) (ct5 : Nat → BitVec 8) (first6 : Nat → BitVec 8) (text7 : List Byte) (r : (List Byte)) : Prop :=
  (0 + text7.length ≤ 140737488355328) ∧
  ∃ out145 : List Byte, Iter (aes_Cipher_Stream_l0 ckeys2 ct3 ct4 ct5 text7) ((([] : List Byte) ++ text7), 0, first6) out145 ∧
  r = out145
end Go.Proofs.YthjkmhdgenmnoaaDoor
