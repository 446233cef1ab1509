/-
 RELATIONS of the package's functions, printed by this session's own program (auto.py).
-/
import Derived.Test.YtjclppnbbpnfnaaDoorEb
import Derived.Test.YtjclppnbbpnfnaaDoorFldT
import Derived.Test.YtjclppnbbpnfnaaDoorShaM
namespace Go.Proofs.YtjclppnbbpnfnaaDoor
set_option linter.unusedSimpArgs false
set_option linter.unusedVariables false
set_option linter.unusedSectionVars false
open Go Go.LW
def letheref07_Clamp (k1 : Nat → BitVec 8) (r : (Nat → BitVec 8)) : Prop :=
 r = (upd (upd k1 0 ((k1 0) - ((k1 0) % (8#8)))) 31 ((((upd k1 0 ((k1 0) - ((k1 0) % (8#8)))) 31) % (64#8)) + (64#8)))
def letheref07_bit (k1 : Nat → BitVec 8) (i_2 : Int) (r : Nat) : Prop :=
 (-9223372036854775808 ≤ (i_2.tdiv 8) ∧ (i_2.tdiv 8) ≤ 9223372036854775807) ∧
 (0 ≤ (i_2.tdiv 8) ∧ (i_2.tdiv 8) < 32) ∧
 (0 ≤ (i_2.tmod 8)) ∧
 r = ((((k1 ((i_2.tdiv 8).toNat)).toNat) / 2 ^ ((i_2.tmod 8).toNat)) % 2)
def letheref07_read_l0 (k1 : Nat → BitVec 8) (s : (Int × (Nat → Int))) (o59 : (Int × (Nat → Int)) ⊕ (Nat → Int)) : Prop :=
 match s with
 | (i_56, m57) =>
   if 0 ≤ i_56 then (
     (-9223372036854775808 ≤ (i_56.tdiv 26) ∧ (i_56.tdiv 26) ≤ 9223372036854775807) ∧
     (-9223372036854775808 ≤ (i_56.tdiv 26) ∧ (i_56.tdiv 26) ≤ 9223372036854775807) ∧
     (0 ≤ (i_56.tdiv 26) ∧ (i_56.tdiv 26) < 10) ∧
     (-9223372036854775808 ≤ (2 * (m57 ((i_56.tdiv 26).toNat))) ∧ (2 * (m57 ((i_56.tdiv 26).toNat))) ≤ 9223372036854775807) ∧
     ∃ x_71 : Nat, letheref07_bit k1 i_56 x_71 ∧
     (-9223372036854775808 ≤ ((2 * (m57 ((i_56.tdiv 26).toNat))) + ((x_71 : Nat) : Int)) ∧ ((2 * (m57 ((i_56.tdiv 26).toNat))) + ((x_71 : Nat) : Int)) ≤ 9223372036854775807) ∧
     (0 ≤ (i_56.tdiv 26) ∧ (i_56.tdiv 26) < 10) ∧
     (-9223372036854775808 ≤ (i_56 - 1) ∧ (i_56 - 1) ≤ 9223372036854775807) ∧
     o59 = .inl ((i_56 - 1), (upd m57 ((i_56.tdiv 26).toNat) ((2 * (m57 ((i_56.tdiv 26).toNat))) + ((x_71 : Nat) : Int))))
   ) else (
     o59 = .inr m57
   )
def letheref07_read (k1 : Nat → BitVec 8) (r : (Nat → Int)) : Prop :=
 ∃ m58 : Nat → Int, Iter (letheref07_read_l0 k1) (254, (fun _ => (0 : Int))) m58 ∧
 r = m58
def letheref07_carried_l1  (s : (Int × Nat × (Nat → Int))) (o148 : (Int × Nat × (Nat → Int)) ⊕ (Int × (Nat → Int))) : Prop :=
 match s with
 | (carry143, i_144, m145) =>
   if i_144 < 10 then (
     (-9223372036854775808 ≤ ((m145 i_144) + carry143) ∧ ((m145 i_144) + carry143) ≤ 9223372036854775807) ∧
     (-9223372036854775808 ≤ (((m145 i_144) + carry143).tdiv 67108864) ∧ (((m145 i_144) + carry143).tdiv 67108864) ≤ 9223372036854775807) ∧
     o148 = .inl ((((m145 i_144) + carry143).tdiv 67108864), (i_144 + 1), (upd m145 i_144 (((m145 i_144) + carry143).tmod 67108864)))
   ) else (
     o148 = .inr (carry143, m145)
   )
def letheref07_carried_l0  (s : (Int × (Nat → Int))) (o112 : (Int × (Nat → Int)) ⊕ (Nat → Int)) : Prop :=
 match s with
 | (carry109, m110) =>
   if 0 < carry109 then (
     ∃ carry146 : Int, ∃ m147 : Nat → Int, Iter (letheref07_carried_l1) (0, 0, m110) (carry146, m147) ∧
     (-9223372036854775808 ≤ (608 * carry146) ∧ (608 * carry146) ≤ 9223372036854775807) ∧
     (-9223372036854775808 ≤ ((m147 0) + (608 * carry146)) ∧ ((m147 0) + (608 * carry146)) ≤ 9223372036854775807) ∧
     o112 = .inl (carry146, (upd m147 0 ((m147 0) + (608 * carry146))))
   ) else (
     o112 = .inr m110
   )
def letheref07_carried (t1 : Nat → Int) (r : (Nat → Int)) : Prop :=
 ∃ m111 : Nat → Int, Iter (letheref07_carried_l0) (1, t1) m111 ∧
 r = m111
def letheref07_of (n_1 : Int) (r : (Nat → Int)) : Prop :=
 ∃ x_10 : Nat → Int, letheref07_carried (upd (fun _ => (0 : Int)) 0 n_1) x_10 ∧
 r = x_10
def letheref07_Add_l0 (b2 : Nat → Int) (s : (Nat × (Nat → Int))) (o28 : (Nat × (Nat → Int)) ⊕ (Nat → Int)) : Prop :=
 match s with
 | (i_25, m26) =>
   if i_25 < 10 then (
     (-9223372036854775808 ≤ ((m26 i_25) + (b2 i_25)) ∧ ((m26 i_25) + (b2 i_25)) ≤ 9223372036854775807) ∧
     o28 = .inl ((i_25 + 1), (upd m26 i_25 ((m26 i_25) + (b2 i_25))))
   ) else (
     o28 = .inr m26
   )
def letheref07_Add (a1 : Nat → Int) (b2 : Nat → Int) (r : (Nat → Int)) : Prop :=
 ∃ m27 : Nat → Int, Iter (letheref07_Add_l0 b2) (0, a1) m27 ∧
 ∃ x_41 : Nat → Int, letheref07_carried m27 x_41 ∧
 r = x_41
def letheref07_Sub_l0 (b2 : Nat → Int) (s : (Nat × (Nat → Int))) (o48 : (Nat × (Nat → Int)) ⊕ (Nat → Int)) : Prop :=
 match s with
 | (i_45, m46) =>
   if i_45 < 10 then (
     ∃ p58 : Nat, (
       if i_45 = 0 then (
         p58 = 134216512
       ) else (
         p58 = 134217726
       )
     ) ∧
     (-9223372036854775808 ≤ ((m46 i_45) + ((p58 : Nat) : Int)) ∧ ((m46 i_45) + ((p58 : Nat) : Int)) ≤ 9223372036854775807) ∧
     (-9223372036854775808 ≤ (((m46 i_45) + ((p58 : Nat) : Int)) - (b2 i_45)) ∧ (((m46 i_45) + ((p58 : Nat) : Int)) - (b2 i_45)) ≤ 9223372036854775807) ∧
     o48 = .inl ((i_45 + 1), (upd m46 i_45 (((m46 i_45) + ((p58 : Nat) : Int)) - (b2 i_45))))
   ) else (
     o48 = .inr m46
   )
def letheref07_Sub (a1 : Nat → Int) (b2 : Nat → Int) (r : (Nat → Int)) : Prop :=
 ∃ m47 : Nat → Int, Iter (letheref07_Sub_l0 b2) (0, a1) m47 ∧
 ∃ x_71 : Nat → Int, letheref07_carried m47 x_71 ∧
 r = x_71
def letheref07_Mul_l1 (a1 : Nat → Int) (b2 : Nat → Int) (i_87 : Nat) (s : (Nat × (Nat → Int))) (o118 : (Nat × (Nat → Int)) ⊕ (Nat → Int)) : Prop :=
 match s with
 | (j115, m116) =>
   if j115 < 10 then (
     (-9223372036854775808 ≤ ((a1 i_87) * (b2 j115)) ∧ ((a1 i_87) * (b2 j115)) ≤ 9223372036854775807) ∧
     (-9223372036854775808 ≤ ((m116 (i_87 + j115)) + ((a1 i_87) * (b2 j115))) ∧ ((m116 (i_87 + j115)) + ((a1 i_87) * (b2 j115))) ≤ 9223372036854775807) ∧
     o118 = .inl ((j115 + 1), (upd m116 (i_87 + j115) ((m116 (i_87 + j115)) + ((a1 i_87) * (b2 j115)))))
   ) else (
     o118 = .inr m116
   )
def letheref07_Mul_l0 (a1 : Nat → Int) (b2 : Nat → Int) (s : (Nat × (Nat → Int))) (o90 : (Nat × (Nat → Int)) ⊕ (Nat → Int)) : Prop :=
 match s with
 | (i_87, m88) =>
   if i_87 < 10 then (
     ∃ m117 : Nat → Int, Iter (letheref07_Mul_l1 a1 b2 i_87) (0, m88) m117 ∧
     o90 = .inl ((i_87 + 1), m117)
   ) else (
     o90 = .inr m88
   )
def letheref07_Mul_l2  (s : (Int × Nat × (Nat → Int))) (o161 : (Int × Nat × (Nat → Int)) ⊕ (Nat → Int)) : Prop :=
 match s with
 | (carry157, i_158, m159) =>
   if i_158 < 20 then (
     (-9223372036854775808 ≤ ((m159 i_158) + carry157) ∧ ((m159 i_158) + carry157) ≤ 9223372036854775807) ∧
     (-9223372036854775808 ≤ (((m159 i_158) + carry157).tdiv 67108864) ∧ (((m159 i_158) + carry157).tdiv 67108864) ≤ 9223372036854775807) ∧
     o161 = .inl ((((m159 i_158) + carry157).tdiv 67108864), (i_158 + 1), (upd m159 i_158 (((m159 i_158) + carry157).tmod 67108864)))
   ) else (
     o161 = .inr m159
   )
def letheref07_Mul_l3 (m160 : Nat → Int) (s : (Nat × (Nat → Int))) (o199 : (Nat × (Nat → Int)) ⊕ (Nat → Int)) : Prop :=
 match s with
 | (i_196, m197) =>
   if i_196 < 10 then (
     (-9223372036854775808 ≤ (608 * (m160 (i_196 + 10))) ∧ (608 * (m160 (i_196 + 10))) ≤ 9223372036854775807) ∧
     (-9223372036854775808 ≤ ((m160 i_196) + (608 * (m160 (i_196 + 10)))) ∧ ((m160 i_196) + (608 * (m160 (i_196 + 10)))) ≤ 9223372036854775807) ∧
     o199 = .inl ((i_196 + 1), (upd m197 i_196 ((m160 i_196) + (608 * (m160 (i_196 + 10))))))
   ) else (
     o199 = .inr m197
   )
def letheref07_Mul (a1 : Nat → Int) (b2 : Nat → Int) (r : (Nat → Int)) : Prop :=
 ∃ m89 : Nat → Int, Iter (letheref07_Mul_l0 a1 b2) (0, (fun _ => (0 : Int))) m89 ∧
 ∃ m160 : Nat → Int, Iter (letheref07_Mul_l2) (0, 0, m89) m160 ∧
 ∃ m198 : Nat → Int, Iter (letheref07_Mul_l3 m160) (0, (fun _ => (0 : Int))) m198 ∧
 ∃ x_213 : Nat → Int, letheref07_carried m198 x_213 ∧
 r = x_213
def letheref07_Inverse_l0 (a1 : Nat → Int) (s : (Int × (Nat → Int))) (o70 : (Int × (Nat → Int)) ⊕ (Nat → Int)) : Prop :=
 match s with
 | (bit67, m68) =>
   if 0 ≤ bit67 then (
     ∃ x_78 : Nat → Int, letheref07_Mul m68 m68 x_78 ∧
     if bit67 ≠ 2 then (
       if bit67 ≠ 4 then (
         ∃ x_85 : Nat → Int, letheref07_Mul x_78 a1 x_85 ∧
         (-9223372036854775808 ≤ (bit67 - 1) ∧ (bit67 - 1) ≤ 9223372036854775807) ∧
         o70 = .inl ((bit67 - 1), x_85)
       ) else (
         o70 = .inl ((bit67 - 1), x_78)
       )
     ) else (
       o70 = .inl ((bit67 - 1), x_78)
     )
   ) else (
     o70 = .inr m68
   )
def letheref07_Inverse (a1 : Nat → Int) (r : (Nat → Int)) : Prop :=
 ∃ x_7 : Nat → Int, letheref07_of 1 x_7 ∧
 ∃ m69 : Nat → Int, Iter (letheref07_Inverse_l0 a1) (254, x_7) m69 ∧
 r = m69
def letheref07_write_l0  (m37 : (Nat → Int)) (o39 : (Nat → Int) ⊕ (Nat → Int)) : Prop :=
 if 2097152 ≤ (m37 9) then (
   (-9223372036854775808 ≤ (19 * ((m37 9) / 2 ^ 21)) ∧ (19 * ((m37 9) / 2 ^ 21)) ≤ 9223372036854775807) ∧
   (-9223372036854775808 ≤ (((upd m37 9 ((m37 9).tmod 2097152)) 0) + (19 * ((m37 9) / 2 ^ 21))) ∧ (((upd m37 9 ((m37 9).tmod 2097152)) 0) + (19 * ((m37 9) / 2 ^ 21))) ≤ 9223372036854775807) ∧
   ∃ x_53 : Nat → Int, letheref07_carried (upd (upd m37 9 ((m37 9).tmod 2097152)) 0 (((upd m37 9 ((m37 9).tmod 2097152)) 0) + (19 * ((m37 9) / 2 ^ 21)))) x_53 ∧
   o39 = .inl x_53
 ) else (
   o39 = .inr m37
 )
def letheref07_write_l1 (m75 : Nat → Int) (s : (Nat × (Nat → BitVec 8))) (o115 : (Nat × (Nat → BitVec 8)) ⊕ (Nat → BitVec 8)) : Prop :=
 match s with
 | (i_112, m113) =>
   if i_112 < 255 then (
     ((i_112 % 26) ≤ 64) ∧
     if (((m75 (i_112 / 26)) / 2 ^ (i_112 % 26)).tmod 2) = 1 then (
       o115 = .inl ((i_112 + 1), (upd m113 (i_112 / 8) ((m113 (i_112 / 8)) + ((1#8) <<< (i_112 % 8)))))
     ) else (
       o115 = .inl ((i_112 + 1), m113)
     )
   ) else (
     o115 = .inr m113
   )
def letheref07_write (n_1 : Nat → Int) (r : (Nat → BitVec 8)) : Prop :=
 ∃ m38 : Nat → Int, Iter (letheref07_write_l0) n_1 m38 ∧
 (-9223372036854775808 ≤ ((m38 0) + 19) ∧ ((m38 0) + 19) ≤ 9223372036854775807) ∧
 ∃ x_65 : Nat → Int, letheref07_carried (upd m38 0 ((m38 0) + 19)) x_65 ∧
 ∃ m75 : Nat → Int, (
   if 2097152 ≤ (x_65 9) then (
     (-9223372036854775808 ≤ ((x_65 9) - 2097152) ∧ ((x_65 9) - 2097152) ≤ 9223372036854775807) ∧
     m75 = (upd x_65 9 ((x_65 9) - 2097152))
   ) else (
     m75 = m38
   )
 ) ∧
 ∃ m114 : Nat → BitVec 8, Iter (letheref07_write_l1 m75) (0, (fun _ => 0#8)) m114 ∧
 r = m114
def letheref07_Times_l0 (x_9 : Nat → BitVec 8) (x_15 : Nat → Int) (s : (Int × (Nat → Int) × (Nat → Int) × (Nat → Int) × (Nat → Int))) (o475 : (Int × (Nat → Int) × (Nat → Int) × (Nat → Int) × (Nat → Int)) ⊕ ((Nat → Int) × (Nat → Int))) : Prop :=
 match s with
 | (i_468, m469, m470, m471, m472) =>
   if 0 ≤ i_468 then (
     ∃ x_484 : Nat, letheref07_bit x_9 i_468 x_484 ∧
     ∃ m494 : Nat → Int, ∃ m495 : Nat → Int, ∃ m496 : Nat → Int, ∃ m497 : Nat → Int, (
       if x_484 = 1 then (
         m494 = m471 ∧ m495 = m472 ∧ m496 = m469 ∧ m497 = m470
       ) else (
         m494 = m469 ∧ m495 = m470 ∧ m496 = m471 ∧ m497 = m472
       )
     ) ∧
     ∃ x_511 : Nat → Int, letheref07_Add m494 m495 x_511 ∧
     ∃ x_515 : Nat → Int, letheref07_Sub m494 m495 x_515 ∧
     ∃ x_519 : Nat → Int, letheref07_Add m496 m497 x_519 ∧
     ∃ x_523 : Nat → Int, letheref07_Sub m496 m497 x_523 ∧
     ∃ x_534 : Nat → Int, letheref07_Mul x_523 x_511 x_534 ∧
     ∃ x_538 : Nat → Int, letheref07_Mul x_519 x_515 x_538 ∧
     ∃ x_547 : Nat → Int, letheref07_Add x_534 x_538 x_547 ∧
     ∃ x_551 : Nat → Int, letheref07_Sub x_534 x_538 x_551 ∧
     ∃ x_558 : Nat → Int, letheref07_Mul x_547 x_547 x_558 ∧
     ∃ x_564 : Nat → Int, letheref07_Mul x_551 x_551 x_564 ∧
     ∃ x_567 : Nat → Int, letheref07_Mul x_15 x_564 x_567 ∧
     ∃ x_574 : Nat → Int, letheref07_Mul x_511 x_511 x_574 ∧
     ∃ x_578 : Nat → Int, letheref07_Mul x_515 x_515 x_578 ∧
     ∃ x_585 : Nat → Int, letheref07_Sub x_574 x_578 x_585 ∧
     ∃ x_591 : Nat → Int, letheref07_Mul x_574 x_578 x_591 ∧
     ∃ x_597 : Nat → Int, letheref07_of 121665 x_597 ∧
     ∃ x_600 : Nat → Int, letheref07_Mul x_597 x_585 x_600 ∧
     ∃ x_603 : Nat → Int, letheref07_Add x_574 x_600 x_603 ∧
     ∃ x_606 : Nat → Int, letheref07_Mul x_585 x_603 x_606 ∧
     if x_484 = 1 then (
       (-9223372036854775808 ≤ (i_468 - 1) ∧ (i_468 - 1) ≤ 9223372036854775807) ∧
       o475 = .inl ((i_468 - 1), x_558, x_567, x_591, x_606)
     ) else (
       (-9223372036854775808 ≤ (i_468 - 1) ∧ (i_468 - 1) ≤ 9223372036854775807) ∧
       o475 = .inl ((i_468 - 1), x_591, x_606, x_558, x_567)
     )
   ) else (
     o475 = .inr (m469, m470)
   )
def letheref07_Times (scalar1 : Nat → BitVec 8) (u2 : Nat → BitVec 8) (r : (Nat → BitVec 8)) : Prop :=
 ∃ x_9 : Nat → BitVec 8, letheref07_Clamp scalar1 x_9 ∧
 ∃ x_15 : Nat → Int, letheref07_read u2 x_15 ∧
 ∃ x_23 : Nat → Int, letheref07_of 1 x_23 ∧
 ∃ x_27 : Nat → Int, letheref07_of 0 x_27 ∧
 ∃ x_31 : Nat → Int, letheref07_of 1 x_31 ∧
 ∃ m473 : Nat → Int, ∃ m474 : Nat → Int, Iter (letheref07_Times_l0 x_9 x_15) (254, x_23, x_27, x_15, x_31) (m473, m474) ∧
 ∃ x_625 : Nat → Int, letheref07_Inverse m474 x_625 ∧
 ∃ x_628 : Nat → Int, letheref07_Mul m473 x_625 x_628 ∧
 ∃ x_631 : Nat → BitVec 8, letheref07_write x_628 x_631 ∧
 r = x_631
def letheref07_Shared (priv1 : Nat → BitVec 8) (pub2 : Nat → BitVec 8) (r : ((Nat → BitVec 8) × Nat)) : Prop :=
 ∃ x_9 : Nat → BitVec 8, letheref07_Times priv1 pub2 x_9 ∧
 if (eqB 32 x_9 (fun _ => 0#8)) = true then (
   r = ((fun _ => 0#8), 70)
 ) else (
   r = (x_9, 0)
 )
end Go.Proofs.YtjclppnbbpnfnaaDoor
