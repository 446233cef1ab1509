/-
 RELATIONS of the package's functions, printed by this session's own program (auto.py).
-/
import Derived.Test.YthjkmhdgenmnoaaEc
namespace Go.Proofs.Ythjkmhdgenmnoaa
set_option linter.unusedSimpArgs false
set_option linter.unusedVariables false
set_option linter.unusedSectionVars false
open Go Go.LW
def letheref04_box  (r : (Nat → BitVec 8)) : Prop :=
 r = (lit [99#8, 124#8, 119#8, 123#8, 242#8, 107#8, 111#8, 197#8, 48#8, 1#8, 103#8, 43#8, 254#8, 215#8, 171#8, 118#8, 202#8, 130#8, 201#8, 125#8, 250#8, 89#8, 71#8, 240#8, 173#8, 212#8, 162#8, 175#8, 156#8, 164#8, 114#8, 192#8, 183#8, 253#8, 147#8, 38#8, 54#8, 63#8, 247#8, 204#8, 52#8, 165#8, 229#8, 241#8, 113#8, 216#8, 49#8, 21#8, 4#8, 199#8, 35#8, 195#8, 24#8, 150#8, 5#8, 154#8, 7#8, 18#8, 128#8, 226#8, 235#8, 39#8, 178#8, 117#8, 9#8, 131#8, 44#8, 26#8, 27#8, 110#8, 90#8, 160#8, 82#8, 59#8, 214#8, 179#8, 41#8, 227#8, 47#8, 132#8, 83#8, 209#8, 0#8, 237#8, 32#8, 252#8, 177#8, 91#8, 106#8, 203#8, 190#8, 57#8, 74#8, 76#8, 88#8, 207#8, 208#8, 239#8, 170#8, 251#8, 67#8, 77#8, 51#8, 133#8, 69#8, 249#8, 2#8, 127#8, 80#8, 60#8, 159#8, 168#8, 81#8, 163#8, 64#8, 143#8, 146#8, 157#8, 56#8, 245#8, 188#8, 182#8, 218#8, 33#8, 16#8, 255#8, 243#8, 210#8, 205#8, 12#8, 19#8, 236#8, 95#8, 151#8, 68#8, 23#8, 196#8, 167#8, 126#8, 61#8, 100#8, 93#8, 25#8, 115#8, 96#8, 129#8, 79#8, 220#8, 34#8, 42#8, 144#8, 136#8, 70#8, 238#8, 184#8, 20#8, 222#8, 94#8, 11#8, 219#8, 224#8, 50#8, 58#8, 10#8, 73#8, 6#8, 36#8, 92#8, 194#8, 211#8, 172#8, 98#8, 145#8, 149#8, 228#8, 121#8, 231#8, 200#8, 55#8, 109#8, 141#8, 213#8, 78#8, 169#8, 108#8, 86#8, 244#8, 234#8, 101#8, 122#8, 174#8, 8#8, 186#8, 120#8, 37#8, 46#8, 28#8, 166#8, 180#8, 198#8, 232#8, 221#8, 116#8, 31#8, 75#8, 189#8, 139#8, 138#8, 112#8, 62#8, 181#8, 102#8, 72#8, 3#8, 246#8, 14#8, 97#8, 53#8, 87#8, 185#8, 134#8, 193#8, 29#8, 158#8, 225#8, 248#8, 152#8, 17#8, 105#8, 217#8, 142#8, 148#8, 155#8, 30#8, 135#8, 233#8, 206#8, 85#8, 40#8, 223#8, 140#8, 161#8, 137#8, 13#8, 191#8, 230#8, 66#8, 104#8, 65#8, 153#8, 45#8, 15#8, 176#8, 84#8, 187#8, 22#8])
def letheref04_Mul_l0 (a1 : BitVec 8) (b2 : BitVec 8) (s : (Nat × Nat)) (o27 : (Nat × Nat) ⊕ Nat) : Prop :=
 match s with
 | (p24, i_25) =>
   if i_25 < 8 then (
     if ((b2 >>> i_25) &&& (1#8)) = 1#8 then (
       (i_25 ≤ 64 ∧ a1.toNat * 2 ^ i_25 < 9223372036854775808) ∧
       (p24 < 9223372036854775808 ∧ (a1.toNat * 2 ^ i_25) < 9223372036854775808) ∧
       o27 = .inl ((p24 ^^^ (a1.toNat * 2 ^ i_25)), (i_25 + 1))
     ) else (
       o27 = .inl (p24, (i_25 + 1))
     )
   ) else (
     o27 = .inr p24
   )
def letheref04_Mul_l1  (s : (Nat × Int)) (o85 : (Nat × Int) ⊕ Nat) : Prop :=
 match s with
 | (p82, i_83) =>
   if 8 ≤ i_83 then (
     (0 ≤ i_83) ∧
     (p82 < 9223372036854775808) ∧
     ((p82 / 2 ^ i_83.toNat) < 9223372036854775808 ∧ 1 < 9223372036854775808) ∧
     if ((p82 / 2 ^ i_83.toNat) &&& 1) = 1 then (
       (-9223372036854775808 ≤ (i_83 - 8) ∧ (i_83 - 8) ≤ 9223372036854775807) ∧
       (0 ≤ (i_83 - 8)) ∧
       ((i_83 - 8).toNat ≤ 64 ∧ 283 * 2 ^ ((i_83 - 8).toNat) < 9223372036854775808) ∧
       (p82 < 9223372036854775808 ∧ (283 * 2 ^ ((i_83 - 8).toNat)) < 9223372036854775808) ∧
       (-9223372036854775808 ≤ (i_83 - 1) ∧ (i_83 - 1) ≤ 9223372036854775807) ∧
       o85 = .inl ((p82 ^^^ (283 * 2 ^ ((i_83 - 8).toNat))), (i_83 - 1))
     ) else (
       (-9223372036854775808 ≤ (i_83 - 1) ∧ (i_83 - 1) ≤ 9223372036854775807) ∧
       o85 = .inl (p82, (i_83 - 1))
     )
   ) else (
     o85 = .inr p82
   )
def letheref04_Mul (a1 : BitVec 8) (b2 : BitVec 8) (r : (BitVec 8)) : Prop :=
 ∃ p26 : Nat, Iter (letheref04_Mul_l0 a1 b2) (0, 0) p26 ∧
 ∃ p84 : Nat, Iter (letheref04_Mul_l1) (p26, 14) p84 ∧
 r = (BitVec.ofNat 8 p84)
def letheref04_New_l0 (x_20 : Nat → BitVec 8) (s : (Nat × (Nat → BitVec 8))) (o41 : (Nat × (Nat → BitVec 8)) ⊕ (Nat → BitVec 8)) : Prop :=
 match s with
 | (a38, m39) =>
   if a38 < 256 then (
     o41 = .inl ((a38 + 1), (upd m39 ((x_20 a38).toNat) (BitVec.ofNat 8 a38)))
   ) else (
     o41 = .inr m39
   )
def letheref04_New_l1 (key1 : List Byte) (s : (Nat × (List (Nat → BitVec 8)))) (o104 : (Nat × (List (Nat → BitVec 8))) ⊕ (List (Nat → BitVec 8))) : Prop :=
 match s with
 | (i_100, m101) =>
   if i_100 < (key1.length / 4) then (
     ((4 * i_100) < 9223372036854775808) ∧
     ((4 * i_100) < key1.length) ∧
     ((4 * i_100) < 9223372036854775808) ∧
     (((4 * i_100) + 1) < 9223372036854775808) ∧
     (((4 * i_100) + 1) < key1.length) ∧
     ((4 * i_100) < 9223372036854775808) ∧
     (((4 * i_100) + 2) < 9223372036854775808) ∧
     (((4 * i_100) + 2) < key1.length) ∧
     ((4 * i_100) < 9223372036854775808) ∧
     (((4 * i_100) + 3) < 9223372036854775808) ∧
     (((4 * i_100) + 3) < key1.length) ∧
     ((m101.length + ([(lit [(lit key1 (4 * i_100)), (lit key1 ((4 * i_100) + 1)), (lit key1 ((4 * i_100) + 2)), (lit key1 ((4 * i_100) + 3))])] : List (Nat → BitVec 8)).length) * 4 ≤ 140737488355328 ∧ m101.length + ([(lit [(lit key1 (4 * i_100)), (lit key1 ((4 * i_100) + 1)), (lit key1 ((4 * i_100) + 2)), (lit key1 ((4 * i_100) + 3))])] : List (Nat → BitVec 8)).length < 9223372036854775808) ∧
     ((i_100 + 1) < 9223372036854775808) ∧
     o104 = .inl ((i_100 + 1), (m101 ++ ([(lit [(lit key1 (4 * i_100)), (lit key1 ((4 * i_100) + 1)), (lit key1 ((4 * i_100) + 2)), (lit key1 ((4 * i_100) + 3))])] : List (Nat → BitVec 8))))
   ) else (
     o104 = .inr m101
   )
def letheref04_New_l2 (key1 : List Byte) (x_20 : Nat → BitVec 8) (s : ((BitVec 8) × Nat × (List (Nat → BitVec 8)))) (o269 : ((BitVec 8) × Nat × (List (Nat → BitVec 8))) ⊕ (List (Nat → BitVec 8))) : Prop :=
 match s with
 | (power265, i_266, m267) =>
   (((key1.length / 4) + 7) < 9223372036854775808) ∧
   ((4 * ((key1.length / 4) + 7)) < 9223372036854775808) ∧
   if i_266 < (4 * ((key1.length / 4) + 7)) then (
     (-9223372036854775808 ≤ (((i_266 : Nat) : Int) - 1) ∧ (((i_266 : Nat) : Int) - 1) ≤ 9223372036854775807) ∧
     (0 ≤ (((i_266 : Nat) : Int) - 1) ∧ (((i_266 : Nat) : Int) - 1) < m267.length) ∧
     ∃ power300 : BitVec 8, ∃ m301 : Nat → BitVec 8, (
       (0 < (key1.length / 4)) ∧
       if (i_266 % (key1.length / 4)) = 0 then (
         ∃ x_312 : BitVec 8, letheref04_Mul power265 (2#8) x_312 ∧
         power300 = x_312 ∧ m301 = (upd (lit [(x_20 (((m267.getD ((((i_266 : Nat) : Int) - 1).toNat) (fun _ => 0#8)) 1).toNat)), (x_20 (((m267.getD ((((i_266 : Nat) : Int) - 1).toNat) (fun _ => 0#8)) 2).toNat)), (x_20 (((m267.getD ((((i_266 : Nat) : Int) - 1).toNat) (fun _ => 0#8)) 3).toNat)), (x_20 (((m267.getD ((((i_266 : Nat) : Int) - 1).toNat) (fun _ => 0#8)) 0).toNat))]) 0 (((lit [(x_20 (((m267.getD ((((i_266 : Nat) : Int) - 1).toNat) (fun _ => 0#8)) 1).toNat)), (x_20 (((m267.getD ((((i_266 : Nat) : Int) - 1).toNat) (fun _ => 0#8)) 2).toNat)), (x_20 (((m267.getD ((((i_266 : Nat) : Int) - 1).toNat) (fun _ => 0#8)) 3).toNat)), (x_20 (((m267.getD ((((i_266 : Nat) : Int) - 1).toNat) (fun _ => 0#8)) 0).toNat))]) 0) ^^^ power265))
       ) else (
         if (key1.length / 4) = 8 then (
           if (i_266 % 8) = 4 then (
             power300 = power265 ∧ m301 = (lit [(x_20 (((m267.getD ((((i_266 : Nat) : Int) - 1).toNat) (fun _ => 0#8)) 0).toNat)), (x_20 (((m267.getD ((((i_266 : Nat) : Int) - 1).toNat) (fun _ => 0#8)) 1).toNat)), (x_20 (((m267.getD ((((i_266 : Nat) : Int) - 1).toNat) (fun _ => 0#8)) 2).toNat)), (x_20 (((m267.getD ((((i_266 : Nat) : Int) - 1).toNat) (fun _ => 0#8)) 3).toNat))])
           ) else (
             power300 = power265 ∧ m301 = (m267.getD ((((i_266 : Nat) : Int) - 1).toNat) (fun _ => 0#8))
           )
         ) else (
           power300 = power265 ∧ m301 = (m267.getD ((((i_266 : Nat) : Int) - 1).toNat) (fun _ => 0#8))
         )
       )
     ) ∧
     (-9223372036854775808 ≤ (((i_266 : Nat) : Int) - (((key1.length / 4) : Nat) : Int)) ∧ (((i_266 : Nat) : Int) - (((key1.length / 4) : Nat) : Int)) ≤ 9223372036854775807) ∧
     (0 ≤ (((i_266 : Nat) : Int) - (((key1.length / 4) : Nat) : Int)) ∧ (((i_266 : Nat) : Int) - (((key1.length / 4) : Nat) : Int)) < m267.length) ∧
     ((m267.length + ([(lit [(((m267.getD ((((i_266 : Nat) : Int) - (((key1.length / 4) : Nat) : Int)).toNat) (fun _ => 0#8)) 0) ^^^ (m301 0)), (((m267.getD ((((i_266 : Nat) : Int) - (((key1.length / 4) : Nat) : Int)).toNat) (fun _ => 0#8)) 1) ^^^ (m301 1)), (((m267.getD ((((i_266 : Nat) : Int) - (((key1.length / 4) : Nat) : Int)).toNat) (fun _ => 0#8)) 2) ^^^ (m301 2)), (((m267.getD ((((i_266 : Nat) : Int) - (((key1.length / 4) : Nat) : Int)).toNat) (fun _ => 0#8)) 3) ^^^ (m301 3))])] : List (Nat → BitVec 8)).length) * 4 ≤ 140737488355328 ∧ m267.length + ([(lit [(((m267.getD ((((i_266 : Nat) : Int) - (((key1.length / 4) : Nat) : Int)).toNat) (fun _ => 0#8)) 0) ^^^ (m301 0)), (((m267.getD ((((i_266 : Nat) : Int) - (((key1.length / 4) : Nat) : Int)).toNat) (fun _ => 0#8)) 1) ^^^ (m301 1)), (((m267.getD ((((i_266 : Nat) : Int) - (((key1.length / 4) : Nat) : Int)).toNat) (fun _ => 0#8)) 2) ^^^ (m301 2)), (((m267.getD ((((i_266 : Nat) : Int) - (((key1.length / 4) : Nat) : Int)).toNat) (fun _ => 0#8)) 3) ^^^ (m301 3))])] : List (Nat → BitVec 8)).length < 9223372036854775808) ∧
     ((i_266 + 1) < 9223372036854775808) ∧
     o269 = .inl (power300, (i_266 + 1), (m267 ++ ([(lit [(((m267.getD ((((i_266 : Nat) : Int) - (((key1.length / 4) : Nat) : Int)).toNat) (fun _ => 0#8)) 0) ^^^ (m301 0)), (((m267.getD ((((i_266 : Nat) : Int) - (((key1.length / 4) : Nat) : Int)).toNat) (fun _ => 0#8)) 1) ^^^ (m301 1)), (((m267.getD ((((i_266 : Nat) : Int) - (((key1.length / 4) : Nat) : Int)).toNat) (fun _ => 0#8)) 2) ^^^ (m301 2)), (((m267.getD ((((i_266 : Nat) : Int) - (((key1.length / 4) : Nat) : Int)).toNat) (fun _ => 0#8)) 3) ^^^ (m301 3))])] : List (Nat → BitVec 8))))
   ) else (
     o269 = .inr m267
   )
def letheref04_New (key1 : List Byte) (r : Unit ⊕ ((List (Nat → BitVec 8)) × (Nat → BitVec 8) × (Nat → BitVec 8))) : Prop :=
 (key1.length < 9223372036854775808) ∧
 ∃ ok11 : Bool, (
   if key1.length ≠ 16 then (
     if key1.length ≠ 24 then (
       if key1.length ≠ 32 then (
         ok11 = false ∧ r = (.inl ())
       ) else (
         ok11 = true
       )
     ) else (
       ok11 = true
     )
   ) else (
     ok11 = true
   )
 ) ∧
 (ok11 = true →
 ∃ x_20 : Nat → BitVec 8, letheref04_box x_20 ∧
 ∃ m40 : Nat → BitVec 8, Iter (letheref04_New_l0 x_20) (0, (fun _ => 0#8)) m40 ∧
 ∃ m103 : List (Nat → BitVec 8), Iter (letheref04_New_l1 key1) (0, ([] : List (Nat → BitVec 8))) m103 ∧
 ∃ m268 : List (Nat → BitVec 8), Iter (letheref04_New_l2 key1 x_20) (1#8, (key1.length / 4), m103) m268 ∧
 r = (.inr (m268, x_20, m40))
 )
def letheref04_Inv_l0 (a1 : BitVec 8) (r : (BitVec 8)) (b27 : Nat) (o28 : Nat ⊕ (Option Unit)) : Prop :=
 if b27 < 256 then (
   ∃ x_36 : BitVec 8, letheref04_Mul a1 (BitVec.ofNat 8 b27) x_36 ∧
   if x_36 = 1#8 then (
     o28 = .inr none ∧ r = (BitVec.ofNat 8 b27)
   ) else (
     o28 = .inl (b27 + 1)
   )
 ) else (
   o28 = .inr (some ())
 )
def letheref04_Inv (a1 : BitVec 8) (r : (BitVec 8)) : Prop :=
 ∃ x28 : Option Unit, Iter (letheref04_Inv_l0 a1 r) 1 x28 ∧ (x28 = some () →
 r = 0#8
 )
def letheref04_Box_l1 (x_5 : BitVec 8) (i_96 : Nat) (s : (Nat × Nat)) (o129 : (Nat × Nat) ⊕ Nat) : Prop :=
 match s with
 | (bit126, t127) =>
   if t127 < 5 then (
     (-9223372036854775808 ≤ (((i_96 : Nat) : Int) + ((fun q => ([0, 4, 5, 6, 7] : List Int).getD q 0) t127)) ∧ (((i_96 : Nat) : Int) + ((fun q => ([0, 4, 5, 6, 7] : List Int).getD q 0) t127)) ≤ 9223372036854775807) ∧
     (0 ≤ ((((i_96 : Nat) : Int) + ((fun q => ([0, 4, 5, 6, 7] : List Int).getD q 0) t127)).tmod 8)) ∧
     (bit126 < 9223372036854775808 ∧ ((x_5 >>> (((((i_96 : Nat) : Int) + ((fun q => ([0, 4, 5, 6, 7] : List Int).getD q 0) t127)).tmod 8).toNat)) &&& (1#8)).toNat < 9223372036854775808) ∧
     o129 = .inl ((bit126 ^^^ (((x_5 >>> (((((i_96 : Nat) : Int) + ((fun q => ([0, 4, 5, 6, 7] : List Int).getD q 0) t127)).tmod 8).toNat)) &&& (1#8)).toNat)), (t127 + 1))
   ) else (
     o129 = .inr bit126
   )
def letheref04_Box_l0 (x_5 : BitVec 8) (s : ((BitVec 8) × Nat)) (o98 : ((BitVec 8) × Nat) ⊕ (BitVec 8)) : Prop :=
 match s with
 | (out95, i_96) =>
   if i_96 < 8 then (
     ∃ bit128 : Nat, Iter (letheref04_Box_l1 x_5 i_96) (((99 / 2 ^ i_96) &&& 1), 0) bit128 ∧
     (i_96 ≤ 64 ∧ bit128 * 2 ^ i_96 < 9223372036854775808) ∧
     o98 = .inl ((out95 ||| (BitVec.ofNat 8 (bit128 * 2 ^ i_96))), (i_96 + 1))
   ) else (
     o98 = .inr out95
   )
def letheref04_Box (a1 : BitVec 8) (r : (BitVec 8)) : Prop :=
 ∃ x_5 : BitVec 8, letheref04_Inv a1 x_5 ∧
 ∃ out97 : BitVec 8, Iter (letheref04_Box_l0 x_5) (0#8, 0) out97 ∧
 r = out97
def letheref04_Unbox_l0 (a1 : BitVec 8) (x_5 : Nat → BitVec 8) (r : (BitVec 8)) (i_25 : Nat) (o26 : Nat ⊕ (Option Unit)) : Prop :=
 if i_25 < 256 then (
   if (x_5 i_25) = a1 then (
     o26 = .inr none ∧ r = (BitVec.ofNat 8 i_25)
   ) else (
     o26 = .inl (i_25 + 1)
   )
 ) else (
   o26 = .inr (some ())
 )
def letheref04_Unbox (a1 : BitVec 8) (r : (BitVec 8)) : Prop :=
 ∃ x_5 : Nat → BitVec 8, letheref04_box x_5 ∧
 ∃ x26 : Option Unit, Iter (letheref04_Unbox_l0 a1 x_5 r) 0 x26 ∧ (x26 = some () →
 r = 0#8
 )
def letheref04_Next_l0  (s : ((BitVec 64) × Nat × Int × (Nat → BitVec 8))) (o63 : ((BitVec 64) × Nat × Int × (Nat → BitVec 8)) ⊕ (Nat → BitVec 8)) : Prop :=
 match s with
 | (n_58, carry59, i_60, m61) =>
   if 0 ≤ i_60 then (
     (0 ≤ i_60 ∧ i_60 < 16) ∧
     ((n_58 % (256#64)).toNat < 9223372036854775808) ∧
     ((((m61 i_60.toNat).toNat) + ((n_58 % (256#64)).toNat)) < 9223372036854775808) ∧
     (((((m61 i_60.toNat).toNat) + ((n_58 % (256#64)).toNat)) + carry59) < 9223372036854775808) ∧
     (0 ≤ i_60 ∧ i_60 < 16) ∧
     (((((m61 i_60.toNat).toNat) + ((n_58 % (256#64)).toNat)) + carry59) < 9223372036854775808) ∧
     (-9223372036854775808 ≤ (i_60 - 1) ∧ (i_60 - 1) ≤ 9223372036854775807) ∧
     o63 = .inl ((n_58 / (256#64)), (((((m61 i_60.toNat).toNat) + ((n_58 % (256#64)).toNat)) + carry59) / 256), (i_60 - 1), (upd m61 i_60.toNat (BitVec.ofNat 8 (((((m61 i_60.toNat).toNat) + ((n_58 % (256#64)).toNat)) + carry59) % 256))))
   ) else (
     o63 = .inr m61
   )
def letheref04_Next (b1 : Nat → BitVec 8) (n_2 : BitVec 64) (r : (Nat → BitVec 8)) : Prop :=
 ∃ m62 : Nat → BitVec 8, Iter (letheref04_Next_l0) (n_2, 0, 15, b1) m62 ∧
 r = m62
def letheref04_Cipher_add_l0 (cW2 : List (Nat → BitVec 8)) (r_6 : Int) (s : (Nat × (Nat → BitVec 8))) (o36 : (Nat × (Nat → BitVec 8)) ⊕ (Nat → BitVec 8)) : Prop :=
 match s with
 | (i_33, m34) =>
   if i_33 < 16 then (
     (-9223372036854775808 ≤ (4 * r_6) ∧ (4 * r_6) ≤ 9223372036854775807) ∧
     (-9223372036854775808 ≤ ((4 * r_6) + (((i_33 / 4) : Nat) : Int)) ∧ ((4 * r_6) + (((i_33 / 4) : Nat) : Int)) ≤ 9223372036854775807) ∧
     (0 ≤ ((4 * r_6) + (((i_33 / 4) : Nat) : Int)) ∧ ((4 * r_6) + (((i_33 / 4) : Nat) : Int)) < cW2.length) ∧
     o36 = .inl ((i_33 + 1), (upd m34 i_33 ((m34 i_33) ^^^ ((cW2.getD (((4 * r_6) + (((i_33 / 4) : Nat) : Int)).toNat) (fun _ => 0#8)) (i_33 % 4)))))
   ) else (
     o36 = .inr m34
   )
def letheref04_Cipher_add (cW2 : List (Nat → BitVec 8)) (cs3 : Nat → BitVec 8) (cu4 : Nat → BitVec 8) (b5 : Nat → BitVec 8) (r_6 : Int) (r : (Nat → BitVec 8)) : Prop :=
 ∃ m35 : Nat → BitVec 8, Iter (letheref04_Cipher_add_l0 cW2 r_6) (0, b5) m35 ∧
 r = m35
def letheref04_Cipher_rounds (cW2 : List (Nat → BitVec 8)) (cs3 : Nat → BitVec 8) (cu4 : Nat → BitVec 8) (r : Int) : Prop :=
 (cW2.length < 9223372036854775808) ∧
 (-9223372036854775808 ≤ ((((cW2.length / 4) : Nat) : Int) - 1) ∧ ((((cW2.length / 4) : Nat) : Int) - 1) ≤ 9223372036854775807) ∧
 r = ((((cW2.length / 4) : Nat) : Int) - 1)
def letheref04_turned_l1 (b1 : Nat → BitVec 8) (times2 : Int) (col89 : Nat) (s : (Nat × (Nat → BitVec 8))) (o121 : (Nat × (Nat → BitVec 8)) ⊕ (Nat → BitVec 8)) : Prop :=
 match s with
 | (r_118, m119) =>
   if r_118 < 4 then (
     (-9223372036854775808 ≤ (((r_118 : Nat) : Int) * times2) ∧ (((r_118 : Nat) : Int) * times2) ≤ 9223372036854775807) ∧
     (-9223372036854775808 ≤ (((col89 : Nat) : Int) + (((r_118 : Nat) : Int) * times2)) ∧ (((col89 : Nat) : Int) + (((r_118 : Nat) : Int) * times2)) ≤ 9223372036854775807) ∧
     (0 ≤ (((r_118 : Nat) : Int) + (4 * ((((col89 : Nat) : Int) + (((r_118 : Nat) : Int) * times2)).tmod 4))) ∧ (((r_118 : Nat) : Int) + (4 * ((((col89 : Nat) : Int) + (((r_118 : Nat) : Int) * times2)).tmod 4))) < 16) ∧
     o121 = .inl ((r_118 + 1), (upd m119 (r_118 + (4 * col89)) (b1 ((((r_118 : Nat) : Int) + (4 * ((((col89 : Nat) : Int) + (((r_118 : Nat) : Int) * times2)).tmod 4))).toNat))))
   ) else (
     o121 = .inr m119
   )
def letheref04_turned_l0 (b1 : Nat → BitVec 8) (times2 : Int) (s : (Nat × (Nat → BitVec 8))) (o92 : (Nat × (Nat → BitVec 8)) ⊕ (Nat → BitVec 8)) : Prop :=
 match s with
 | (col89, m90) =>
   if col89 < 4 then (
     ∃ m120 : Nat → BitVec 8, Iter (letheref04_turned_l1 b1 times2 col89) (0, m90) m120 ∧
     o92 = .inl ((col89 + 1), m120)
   ) else (
     o92 = .inr m90
   )
def letheref04_turned (b1 : Nat → BitVec 8) (times2 : Int) (r : (Nat → BitVec 8)) : Prop :=
 ∃ m91 : Nat → BitVec 8, Iter (letheref04_turned_l0 b1 times2) (0, (fun _ => 0#8)) m91 ∧
 r = m91
def letheref04_mixed_l1 (b1 : Nat → BitVec 8) (col118 : Nat) (s : (Nat × (Nat → BitVec 8))) (o160 : (Nat × (Nat → BitVec 8)) ⊕ (Nat → BitVec 8)) : Prop :=
 match s with
 | (r_157, m158) =>
   if r_157 < 4 then (
     ∃ x_169 : BitVec 8, letheref04_Mul (2#8) (b1 ((4 * col118) + r_157)) x_169 ∧
     ∃ x_172 : BitVec 8, letheref04_Mul (3#8) (b1 ((4 * col118) + ((r_157 + 1) % 4))) x_172 ∧
     o160 = .inl ((r_157 + 1), (upd m158 ((4 * col118) + r_157) (((x_169 ^^^ x_172) ^^^ (b1 ((4 * col118) + ((r_157 + 2) % 4)))) ^^^ (b1 ((4 * col118) + ((r_157 + 3) % 4))))))
   ) else (
     o160 = .inr m158
   )
def letheref04_mixed_l0 (b1 : Nat → BitVec 8) (s : (Nat × (Nat → BitVec 8))) (o121 : (Nat × (Nat → BitVec 8)) ⊕ (Nat → BitVec 8)) : Prop :=
 match s with
 | (col118, m119) =>
   if col118 < 4 then (
     ∃ m159 : Nat → BitVec 8, Iter (letheref04_mixed_l1 b1 col118) (0, m119) m159 ∧
     o121 = .inl ((col118 + 1), m159)
   ) else (
     o121 = .inr m119
   )
def letheref04_mixed (b1 : Nat → BitVec 8) (r : (Nat → BitVec 8)) : Prop :=
 ∃ m120 : Nat → BitVec 8, Iter (letheref04_mixed_l0 b1) (0, (fun _ => 0#8)) m120 ∧
 r = m120
def letheref04_Cipher_Encrypt_l1 (cs3 : Nat → BitVec 8) (s : (Nat × (Nat → BitVec 8))) (o180 : (Nat × (Nat → BitVec 8)) ⊕ (Nat → BitVec 8)) : Prop :=
 match s with
 | (i_177, m178) =>
   if i_177 < 16 then (
     o180 = .inl ((i_177 + 1), (upd m178 i_177 (cs3 ((m178 i_177).toNat))))
   ) else (
     o180 = .inr m178
   )
def letheref04_Cipher_Encrypt_l0 (cW2 : List (Nat → BitVec 8)) (cs3 : Nat → BitVec 8) (cu4 : Nat → BitVec 8) (s : (Nat × (Nat → BitVec 8))) (o153 : (Nat × (Nat → BitVec 8)) ⊕ (Nat → BitVec 8)) : Prop :=
 match s with
 | (r_150, m151) =>
   ∃ x_158 : Int, letheref04_Cipher_rounds cW2 cs3 cu4 x_158 ∧
   if ((r_150 : Nat) : Int) ≤ x_158 then (
     ∃ m179 : Nat → BitVec 8, Iter (letheref04_Cipher_Encrypt_l1 cs3) (0, m151) m179 ∧
     ∃ x_191 : Nat → BitVec 8, letheref04_turned m179 1 x_191 ∧
     ∃ m204 : Nat → BitVec 8, (
       ∃ x_208 : Int, letheref04_Cipher_rounds cW2 cs3 cu4 x_208 ∧
       if ((r_150 : Nat) : Int) < x_208 then (
         ∃ x_212 : Nat → BitVec 8, letheref04_mixed x_191 x_212 ∧
         m204 = x_212
       ) else (
         m204 = x_191
       )
     ) ∧
     ∃ x_217 : Nat → BitVec 8, letheref04_Cipher_add cW2 cs3 cu4 m204 ((r_150 : Nat) : Int) x_217 ∧
     ((r_150 + 1) < 9223372036854775808) ∧
     o153 = .inl ((r_150 + 1), x_217)
   ) else (
     o153 = .inr m151
   )
def letheref04_Cipher_Encrypt (cW2 : List (Nat → BitVec 8)) (cs3 : Nat → BitVec 8) (cu4 : Nat → BitVec 8) (b5 : Nat → BitVec 8) (r : (Nat → BitVec 8)) : Prop :=
 ∃ x_12 : Nat → BitVec 8, letheref04_Cipher_add cW2 cs3 cu4 b5 0 x_12 ∧
 ∃ m152 : Nat → BitVec 8, Iter (letheref04_Cipher_Encrypt_l0 cW2 cs3 cu4) (1, x_12) m152 ∧
 r = m152
def letheref04_Cipher_Decrypt_l1 (cu4 : Nat → BitVec 8) (s : (Nat × (Nat → BitVec 8))) (o237 : (Nat × (Nat → BitVec 8)) ⊕ (Nat → BitVec 8)) : Prop :=
 match s with
 | (i_234, m235) =>
   if i_234 < 16 then (
     o237 = .inl ((i_234 + 1), (upd m235 i_234 (cu4 ((m235 i_234).toNat))))
   ) else (
     o237 = .inr m235
   )
def letheref04_Cipher_Decrypt_l0 (cW2 : List (Nat → BitVec 8)) (cs3 : Nat → BitVec 8) (cu4 : Nat → BitVec 8) (s : (Int × (Nat → BitVec 8))) (o170 : (Int × (Nat → BitVec 8)) ⊕ (Nat → BitVec 8)) : Prop :=
 match s with
 | (r_167, m168) =>
   if 1 ≤ r_167 then (
     ∃ x_178 : Nat → BitVec 8, letheref04_Cipher_add cW2 cs3 cu4 m168 r_167 x_178 ∧
     ∃ m197 : Nat → BitVec 8, (
       ∃ x_201 : Int, letheref04_Cipher_rounds cW2 cs3 cu4 x_201 ∧
       if r_167 < x_201 then (
         ∃ x_205 : Nat → BitVec 8, letheref04_mixed x_178 x_205 ∧
         ∃ x_208 : Nat → BitVec 8, letheref04_mixed x_205 x_208 ∧
         ∃ x_211 : Nat → BitVec 8, letheref04_mixed x_208 x_211 ∧
         m197 = x_211
       ) else (
         m197 = x_178
       )
     ) ∧
     ∃ x_217 : Nat → BitVec 8, letheref04_turned m197 3 x_217 ∧
     ∃ m236 : Nat → BitVec 8, Iter (letheref04_Cipher_Decrypt_l1 cu4) (0, x_217) m236 ∧
     (-9223372036854775808 ≤ (r_167 - 1) ∧ (r_167 - 1) ≤ 9223372036854775807) ∧
     o170 = .inl ((r_167 - 1), m236)
   ) else (
     o170 = .inr m168
   )
def letheref04_Cipher_Decrypt (cW2 : List (Nat → BitVec 8)) (cs3 : Nat → BitVec 8) (cu4 : Nat → BitVec 8) (b5 : Nat → BitVec 8) (r : (Nat → BitVec 8)) : Prop :=
 ∃ x_13 : Int, letheref04_Cipher_rounds cW2 cs3 cu4 x_13 ∧
 ∃ m169 : Nat → BitVec 8, Iter (letheref04_Cipher_Decrypt_l0 cW2 cs3 cu4) (x_13, b5) m169 ∧
 ∃ x_250 : Nat → BitVec 8, letheref04_Cipher_add cW2 cs3 cu4 m169 0 x_250 ∧
 r = x_250
def letheref04_Cipher_Stream_l1 (n_6 : Int) (x_149 : Nat → BitVec 8) (s : ((List Byte) × Nat)) (o181 : ((List Byte) × Nat) ⊕ (List Byte)) : Prop :=
 match s with
 | (out178, i_179) =>
   if i_179 < 16 then (
     if ((out178.length : Nat) : Int) < n_6 then (
       (out178.length + ([(x_149 i_179)] : List Byte).length ≤ 140737488355328) ∧
       o181 = .inl ((out178 ++ ([(x_149 i_179)] : List Byte)), (i_179 + 1))
     ) else (
       o181 = .inr out178
     )
   ) else (
     o181 = .inr out178
   )
def letheref04_Cipher_Stream_l0 (cW2 : List (Nat → BitVec 8)) (cs3 : Nat → BitVec 8) (cu4 : Nat → BitVec 8) (n_6 : Int) (s : ((List Byte) × (Nat → BitVec 8))) (o140 : ((List Byte) × (Nat → BitVec 8)) ⊕ (List Byte)) : Prop :=
 match s with
 | (out136, m138) =>
   if ((out136.length : Nat) : Int) < n_6 then (
     ∃ x_149 : Nat → BitVec 8, letheref04_Cipher_Encrypt cW2 cs3 cu4 m138 x_149 ∧
     ∃ out180 : List Byte, Iter (letheref04_Cipher_Stream_l1 n_6 x_149) (out136, 0) out180 ∧
     ∃ x_200 : Nat → BitVec 8, letheref04_Next m138 (1#64) x_200 ∧
     o140 = .inl (out180, x_200)
   ) else (
     o140 = .inr out136
   )
def letheref04_Cipher_Stream (cW2 : List (Nat → BitVec 8)) (cs3 : Nat → BitVec 8) (cu4 : Nat → BitVec 8) (from_5 : Nat → BitVec 8) (n_6 : Int) (r : (List Byte)) : Prop :=
 ∃ out139 : List Byte, Iter (letheref04_Cipher_Stream_l0 cW2 cs3 cu4 n_6) (([] : List Byte), from_5) out139 ∧
 r = out139
def letheref04_Cipher_Hide_l0 (data6 : List Byte) (x_12 : List Byte) (s : ((List Byte) × Nat)) (o50 : ((List Byte) × Nat) ⊕ (List Byte)) : Prop :=
 match s with
 | (s47, i_48) =>
   if i_48 < x_12.length then (
     (i_48 < x_12.length) ∧
     (i_48 < data6.length) ∧
     (i_48 < x_12.length) ∧
     ((i_48 + 1) < 9223372036854775808) ∧
     o50 = .inl ((s47.set i_48 ((lit s47 i_48) ^^^ (lit data6 i_48))), (i_48 + 1))
   ) else (
     o50 = .inr s47
   )
def letheref04_Cipher_Hide (cW2 : List (Nat → BitVec 8)) (cs3 : Nat → BitVec 8) (cu4 : Nat → BitVec 8) (from_5 : Nat → BitVec 8) (data6 : List Byte) (r : (List Byte)) : Prop :=
 ∃ x_12 : List Byte, letheref04_Cipher_Stream cW2 cs3 cu4 from_5 ((data6.length : Nat) : Int) x_12 ∧
 ∃ s49 : List Byte, Iter (letheref04_Cipher_Hide_l0 data6 x_12) (x_12, 0) s49 ∧
 r = s49
end Go.Proofs.Ythjkmhdgenmnoaa
