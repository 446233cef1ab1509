/-
 RELATIONS of the package's functions, printed by this session's own program (auto.py).
-/
import Derived.Test.YtjclppnbbpnfnaaDoorEb
import Derived.Test.YtjclppnbbpnfnaaDoorFldT
import Derived.Test.YtjclppnbbpnfnaaDoorShaM
import Derived.Test.YtjclppnbbpnfnaaDoorRBits
namespace Go.Proofs.YtjclppnbbpnfnaaDoor
set_option linter.unusedSimpArgs false
set_option linter.unusedVariables false
set_option linter.unusedSectionVars false
open Go Go.LW
def bytes_Repeat_l0 (x_17 : BitVec 64) (chunkMax42 : Nat) (nz53 : List Byte) (s : ((List Byte) × Nat)) (o88 : ((List Byte) × Nat) ⊕ (List Byte)) : Prop :=
 match s with
 | (nb85, bp86) =>
   if bp86 < x_17.toNat then (
     (bp86 ≤ (seg nz53 0 x_17.toNat).length ∧ (seg nz53 0 x_17.toNat).length ≤ (seg nz53 0 x_17.toNat).length) ∧
     (0 ≤ (min bp86 chunkMax42) ∧ (min bp86 chunkMax42) ≤ (seg nz53 0 x_17.toNat).length) ∧
     ((bp86 + (min ((min bp86 chunkMax42) - 0) ((seg nz53 0 x_17.toNat).length - bp86))) < 9223372036854775808) ∧
     o88 = .inl ((ovr nb85 bp86 (min ((min bp86 chunkMax42) - 0) ((seg nz53 0 x_17.toNat).length - bp86)) (seg nb85 0 (min bp86 chunkMax42))), (bp86 + (min ((min bp86 chunkMax42) - 0) ((seg nz53 0 x_17.toNat).length - bp86))))
   ) else (
     o88 = .inr nb85
   )
def bytes_Repeat (b1 : List Byte) (count2 : Int) (r : (List Byte)) : Prop :=
 if count2 = 0 then (
   r = ([] : List Byte)
 ) else (
   if count2 < 0 then (
     False
   ) else (
     ∃ x_16 : BitVec 64, ∃ x_17 : BitVec 64, bits_Mul (BitVec.ofNat 64 b1.length) (BitVec.ofInt 64 count2) (x_16, x_17) ∧
     if (0#64).toNat < x_16.toNat then (
       False
     ) else (
       if (9223372036854775807#64).toNat < x_17.toNat then (
         False
       ) else (
         (x_17.toNat < 9223372036854775808) ∧
         if b1.length = 0 then (
           r = ([] : List Byte)
         ) else (
           ∃ chunkMax42 : Nat, (
             if 8192 < x_17.toNat then (
               (0 < b1.length) ∧
               (((8192 / b1.length) * b1.length) < 9223372036854775808) ∧
               if ((8192 / b1.length) * b1.length) = 0 then (
                 chunkMax42 = b1.length
               ) else (
                 chunkMax42 = ((8192 / b1.length) * b1.length)
               )
             ) else (
               chunkMax42 = x_17.toNat
             )
           ) ∧
           (x_17.toNat ≤ 281474976710656) ∧
           ∀ nz53 : List Byte, nz53.length = x_17.toNat →
           (x_17.toNat ≤ nz53.length) ∧
           ∃ nb87 : List Byte, Iter (bytes_Repeat_l0 x_17 chunkMax42 nz53) ((ovr (seg nz53 0 x_17.toNat) 0 (min b1.length ((seg nz53 0 x_17.toNat).length)) b1), (min b1.length ((seg nz53 0 x_17.toNat).length))) nb87 ∧
           r = nb87
         )
       )
     )
   )
 )
end Go.Proofs.YtjclppnbbpnfnaaDoor
