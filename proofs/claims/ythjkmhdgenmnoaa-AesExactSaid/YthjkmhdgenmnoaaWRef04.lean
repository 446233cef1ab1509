/-
 WALKS of the package's functions, printed by this session's own program (auto.py).
-/
import Derived.Test.YthjkmhdgenmnoaaProg
import Derived.Test.YthjkmhdgenmnoaaEc
import Derived.Test.YthjkmhdgenmnoaaRRef04
import Derived.Test.YthjkmhdgenmnoaaEls
namespace Go.Proofs.Ythjkmhdgenmnoaa
set_option linter.unusedSimpArgs false
set_option linter.unusedVariables false
set_option linter.unusedSectionVars false
set_option maxRecDepth 8000
set_option maxHeartbeats 1000000
open Go Go.LW
theorem FRef04.el28 : elD Try.prog 28 = some (1, 1, some (VU .u8 0#8)) := by kernel_rfl
theorem FRef04.sc3 : scalarT Try.prog 3 = true := by kernel_rfl
theorem FRef04.sl28 : slB Try.prog 28 1 = true := by kernel_rfl
theorem FRef04.zv5 : (Try.prog.info? 5).bind (·.zero) = some (VU .u8 0#8) := by kernel_rfl
theorem FRef04.slu28 : Try.prog.underlying 28 = some (.slice 5) := by kernel_rfl
theorem FRef04.sz5 : szT Try.prog 5 1 = true := by kernel_rfl
theorem FRef04.isl28 : ∃ el, Try.prog.underlying 28 = some (.slice el) := ⟨5, by kernel_rfl⟩
theorem FRef04.mixed : Try.prog.follows .mixedOrders = true := by kernel_rfl
theorem FRef04.arr59 : arrB Try.prog 59 256 1 = true := by kernel_rfl
theorem FRef04.u5 : Try.prog.underlying 5 = some (.int .u8) := by kernel_rfl
theorem FRef04.some3 : (Try.prog.underlying 3).isSome = true := by kernel_rfl
theorem FRef04.arr76 : arrB Try.prog 76 4 1 = true := by kernel_rfl
theorem FRef04.agg76 : aggT Try.prog 76 4 = true := by kernel_rfl
theorem FRef04.z76 : zeroIs Try.prog 76 [(4, fun _ => VU .u8 0#8)] := zeroIs_agg (by kernel_rfl)
theorem FRef04.sz76 : szT Try.prog 76 4 = true := by kernel_rfl
theorem FRef04.sc5 : scalarT Try.prog 5 = true := by kernel_rfl
theorem FRef04.arr27 : arrB Try.prog 27 16 1 = true := by kernel_rfl
theorem FRef04.z59 : zeroIs Try.prog 59 [(256, fun _ => VU .u8 0#8)] := zeroIs_agg (by kernel_rfl)
theorem FRef04.sz59 : szT Try.prog 59 256 = true := by kernel_rfl
theorem FRef04.agg59 : aggT Try.prog 59 256 = true := by kernel_rfl
theorem FRef04.call41 : callB Try.prog 41 = true := by kernel_rfl
theorem FRef04.pl84 : placesB Try.prog 84 [(0, 1), (1, 256), (257, 256)] = true := by kernel_rfl
theorem FRef04.z84 : zeroIs Try.prog 84 [(1, fun _ => .slice none 0 0), (256, fun _ => VU .u8 0#8), (256, fun _ => VU .u8 0#8)] := zeroIs_agg (by kernel_rfl)
theorem FRef04.fld84_1 : fieldB Try.prog 84 1 1 = true := by kernel_rfl
theorem FRef04.fld84_2 : fieldB Try.prog 84 2 257 = true := by kernel_rfl
theorem FRef04.fld84_0 : fieldB Try.prog 84 0 0 = true := by kernel_rfl
theorem FRef04.sc82 : scalarT Try.prog 82 = true := by kernel_rfl
theorem FRef04.zv76 : (Try.prog.info? 76).bind (·.zero) = some (AG [(4, fun _ => VU .u8 0#8)]) := by kernel_rfl
theorem FRef04.slu82 : Try.prog.underlying 82 = some (.slice 76) := by kernel_rfl
theorem FRef04.el82 : elD Try.prog 82 = some (4, 4, some (AG [(4, fun _ => VU .u8 0#8)])) := by kernel_rfl
theorem FRef04.sz82 : szT Try.prog 82 1 = true := by kernel_rfl
theorem FRef04.sl82 : slB Try.prog 82 4 = true := by kernel_rfl
theorem FRef04.u3 : Try.prog.underlying 3 = some (.int .i64) := by kernel_rfl
theorem FRef04.some5 : (Try.prog.underlying 5).isSome = true := by kernel_rfl
theorem FRef04.call28 : callB Try.prog 28 = true := by kernel_rfl
theorem FRef04.call40 : callB Try.prog 40 = true := by kernel_rfl
theorem FRef04.arr78 : arrB Try.prog 78 5 1 = true := by kernel_rfl
theorem FRef04.z78 : zeroIs Try.prog 78 [(5, fun _ => .int .i64 0)] := zeroIs_agg (by kernel_rfl)
theorem FRef04.isarr78 : Try.prog.underlying 78 = some (.array 5 3) := by kernel_rfl
theorem FRef04.sz3 : szT Try.prog 3 1 = true := by kernel_rfl
theorem FRef04.agg27 : aggT Try.prog 27 16 = true := by kernel_rfl
theorem FRef04.z27 : zeroIs Try.prog 27 [(16, fun _ => VU .u8 0#8)] := zeroIs_agg (by kernel_rfl)
theorem FRef04.some29 : (Try.prog.underlying 29).isSome = true := by kernel_rfl
theorem FRef04.sz27 : szT Try.prog 27 16 = true := by kernel_rfl
theorem FRef04.call31 : callB Try.prog 31 = true := by kernel_rfl
theorem FRef04.call42 : callB Try.prog 42 = true := by kernel_rfl
theorem FRef04.isl82 : ∃ el, Try.prog.underlying 82 = some (.slice el) := ⟨76, by kernel_rfl⟩
theorem FRef04.call43 : callB Try.prog 43 = true := by kernel_rfl
theorem FRef04.call44 : callB Try.prog 44 = true := by kernel_rfl
theorem FRef04.call45 : callB Try.prog 45 = true := by kernel_rfl
theorem FRef04.call34 : callB Try.prog 34 = true := by kernel_rfl
theorem FRef04.call46 : callB Try.prog 46 = true := by kernel_rfl
theorem letheref04_box_ok {B : Nat} {w0 w : World} {L : List Rg}  {r : (Nat → BitVec 8)} (hR : letheref04_box r) (HST : St B w0 (L) w) :
  Calls Try.prog 41 #[] w fun e w' => e = .returned (AG [(256, fun q => VU .u8 (r q))]) ∧ St B w0 (L) w' := by
 refine W.enter 2 Try.func41 rfl rfl rfl ?_
 unfold letheref04_box at hR
 refine W.seq_k fun _ k1 => W.regionT [(0, false)] (by kernel_rfl) ?_
 refine Plan.alloc HST rfl FRef04.z59 PIn.nil fun b2 w2 hb2 h2 => ?_
 simp only [rngs, Nat.zero_add, Nat.reduceAdd, zca, zna] at h2
 refine Plan.nil (k1 _ _ ?_); clear k1
 refine W.seq_k fun _ k3 => W.regionT [(0, true), (1, false)] (by kernel_rfl) ?_
 refine Plan.buildArr (ps := [(256, fun q => VU .u8 ((lit [99#8, 124#8, 119#8, 123#8, 242#8, 107#8, 111#8, 197#8, 48#8, 1#8, 103#8, 43#8, 254#8, 215#8, 171#8, 118#8, 202#8, 130#8, 201#8, 125#8, 250#8, 89#8, 71#8, 240#8, 173#8, 212#8, 162#8, 175#8, 156#8, 164#8, 114#8, 192#8, 183#8, 253#8, 147#8, 38#8, 54#8, 63#8, 247#8, 204#8, 52#8, 165#8, 229#8, 241#8, 113#8, 216#8, 49#8, 21#8, 4#8, 199#8, 35#8, 195#8, 24#8, 150#8, 5#8, 154#8, 7#8, 18#8, 128#8, 226#8, 235#8, 39#8, 178#8, 117#8, 9#8, 131#8, 44#8, 26#8, 27#8, 110#8, 90#8, 160#8, 82#8, 59#8, 214#8, 179#8, 41#8, 227#8, 47#8, 132#8, 83#8, 209#8, 0#8, 237#8, 32#8, 252#8, 177#8, 91#8, 106#8, 203#8, 190#8, 57#8, 74#8, 76#8, 88#8, 207#8, 208#8, 239#8, 170#8, 251#8, 67#8, 77#8, 51#8, 133#8, 69#8, 249#8, 2#8, 127#8, 80#8, 60#8, 159#8, 168#8, 81#8, 163#8, 64#8, 143#8, 146#8, 157#8, 56#8, 245#8, 188#8, 182#8, 218#8, 33#8, 16#8, 255#8, 243#8, 210#8, 205#8, 12#8, 19#8, 236#8, 95#8, 151#8, 68#8, 23#8, 196#8, 167#8, 126#8, 61#8, 100#8, 93#8, 25#8, 115#8, 96#8, 129#8, 79#8, 220#8, 34#8, 42#8, 144#8, 136#8, 70#8, 238#8, 184#8, 20#8, 222#8, 94#8, 11#8, 219#8, 224#8, 50#8, 58#8, 10#8, 73#8, 6#8, 36#8, 92#8, 194#8, 211#8, 172#8, 98#8, 145#8, 149#8, 228#8, 121#8, 231#8, 200#8, 55#8, 109#8, 141#8, 213#8, 78#8, 169#8, 108#8, 86#8, 244#8, 234#8, 101#8, 122#8, 174#8, 8#8, 186#8, 120#8, 37#8, 46#8, 28#8, 166#8, 180#8, 198#8, 232#8, 221#8, 116#8, 31#8, 75#8, 189#8, 139#8, 138#8, 112#8, 62#8, 181#8, 102#8, 72#8, 3#8, 246#8, 14#8, 97#8, 53#8, 87#8, 185#8, 134#8, 193#8, 29#8, 158#8, 225#8, 248#8, 152#8, 17#8, 105#8, 217#8, 142#8, 148#8, 155#8, 30#8, 135#8, 233#8, 206#8, 85#8, 40#8, 223#8, 140#8, 161#8, 137#8, 13#8, 191#8, 230#8, 66#8, 104#8, 65#8, 153#8, 45#8, 15#8, 176#8, 84#8, 187#8, 22#8]) q))]) FRef04.arr59 FRef04.z59 rfl rfl (by kernel_rfl) ?_
 refine Plan.storeA (f' := fun q => VU .u8 ((lit [99#8, 124#8, 119#8, 123#8, 242#8, 107#8, 111#8, 197#8, 48#8, 1#8, 103#8, 43#8, 254#8, 215#8, 171#8, 118#8, 202#8, 130#8, 201#8, 125#8, 250#8, 89#8, 71#8, 240#8, 173#8, 212#8, 162#8, 175#8, 156#8, 164#8, 114#8, 192#8, 183#8, 253#8, 147#8, 38#8, 54#8, 63#8, 247#8, 204#8, 52#8, 165#8, 229#8, 241#8, 113#8, 216#8, 49#8, 21#8, 4#8, 199#8, 35#8, 195#8, 24#8, 150#8, 5#8, 154#8, 7#8, 18#8, 128#8, 226#8, 235#8, 39#8, 178#8, 117#8, 9#8, 131#8, 44#8, 26#8, 27#8, 110#8, 90#8, 160#8, 82#8, 59#8, 214#8, 179#8, 41#8, 227#8, 47#8, 132#8, 83#8, 209#8, 0#8, 237#8, 32#8, 252#8, 177#8, 91#8, 106#8, 203#8, 190#8, 57#8, 74#8, 76#8, 88#8, 207#8, 208#8, 239#8, 170#8, 251#8, 67#8, 77#8, 51#8, 133#8, 69#8, 249#8, 2#8, 127#8, 80#8, 60#8, 159#8, 168#8, 81#8, 163#8, 64#8, 143#8, 146#8, 157#8, 56#8, 245#8, 188#8, 182#8, 218#8, 33#8, 16#8, 255#8, 243#8, 210#8, 205#8, 12#8, 19#8, 236#8, 95#8, 151#8, 68#8, 23#8, 196#8, 167#8, 126#8, 61#8, 100#8, 93#8, 25#8, 115#8, 96#8, 129#8, 79#8, 220#8, 34#8, 42#8, 144#8, 136#8, 70#8, 238#8, 184#8, 20#8, 222#8, 94#8, 11#8, 219#8, 224#8, 50#8, 58#8, 10#8, 73#8, 6#8, 36#8, 92#8, 194#8, 211#8, 172#8, 98#8, 145#8, 149#8, 228#8, 121#8, 231#8, 200#8, 55#8, 109#8, 141#8, 213#8, 78#8, 169#8, 108#8, 86#8, 244#8, 234#8, 101#8, 122#8, 174#8, 8#8, 186#8, 120#8, 37#8, 46#8, 28#8, 166#8, 180#8, 198#8, 232#8, 221#8, 116#8, 31#8, 75#8, 189#8, 139#8, 138#8, 112#8, 62#8, 181#8, 102#8, 72#8, 3#8, 246#8, 14#8, 97#8, 53#8, 87#8, 185#8, 134#8, 193#8, 29#8, 158#8, 225#8, 248#8, 152#8, 17#8, 105#8, 217#8, 142#8, 148#8, 155#8, 30#8, 135#8, 233#8, 206#8, 85#8, 40#8, 223#8, 140#8, 161#8, 137#8, 13#8, 191#8, 230#8, 66#8, 104#8, 65#8, 153#8, 45#8, 15#8, 176#8, 84#8, 187#8, 22#8]) q)) h2 0 rfl rfl rfl rfl (fun _ _ => rfl) FRef04.sz59 rfl fun w4 h4 => ?_
 simp only [zca, zna, zsz, zss] at h4
 refine Plan.nil (k3 _ _ ?_); clear k3
 refine W.ret (finR_ret ?_)
 have h5 := St.pickT (C := [_]) h4 [] (by decide)
 simp only [pick, zfc, zfn, zgz, zgs, zca, zna] at h5
 subst r
 refine RetOk.mk (.agg h4 rfl (.cons 0 rfl .nil) FRef04.agg59 .nil) ?_
 exact ⟨rfl, h5⟩
theorem letheref04_Mul_ok {B : Nat} {w0 w : World} {L : List Rg} {a1 : BitVec 8} {b2 : BitVec 8} {r : (BitVec 8)} (hR : letheref04_Mul a1 b2 r) (HST : St B w0 (L) w) :
  Calls Try.prog 28 #[VU .u8 a1, VU .u8 b2] w fun e w' => e = .returned (VU .u8 r) ∧ St B w0 (L) w' := by
 refine W.enter 39 Try.func28 rfl rfl rfl ?_
 unfold letheref04_Mul at hR
 refine W.seq_k fun _ k3 => W.regionT [(0, true)] (by kernel_rfl) ?_
 refine Plan.assign_int rfl rfl <| Plan.nil (k3 _ _ ?_); clear k3
 refine W.seq_k fun _ k4 => W.regionT [(0, true)] (by kernel_rfl) ?_
 refine Plan.assign_int rfl rfl <| Plan.nil (k4 _ _ ?_); clear k4
 refine W.seq_k fun _ k5 => W.seq_k fun _ k6 => ?_
 refine W.regionT [(0, true)] (by kernel_rfl) ?_
 refine Plan.assign_int rfl rfl <| Plan.nil (k6 _ _ ?_); clear k6
 obtain ⟨p26, hI27, hR027⟩ := hR
 refine W.cutN (fun e w => ∃ y_p26 : Nat, p26 = y_p26 ∧ EnvHas e [(5, VN y_p26)] ∧ St B w0 (L) w) ?_ ?_
 ·
  refine W.block ?_
  refine W.iter hI27 (fun (s27 : (Nat × Nat)) e w => EnvHas e [(0, VU .u8 a1), (1, VU .u8 b2), (5, VN s27.1), (6, VN s27.2)] ∧ St B w0 (L) w) ⟨(zer (zer (zer (zer zen)))), HST⟩ ?_
  rintro ⟨p24, i_25⟩ o27 hR hx27 ev28 wl28 ⟨he28, h28⟩
  obtain ⟨ev28, rfl⟩ := he28.open
  unfold letheref04_Mul_l0 at hR
  refine W.seq_k fun _ k29 => W.seq_k fun _ k30 => ?_
  refine W.regionT [(0, true), (1, true)] (by kernel_rfl) ?_
  refine Plan.move_int rfl rfl <| Plan.cmpP (a := (((i_25 : Nat) : Int) : Int)) (b := (8 : Int)) (p := i_25 < 8) rfl rfl rfl rfl icmp_ltN <| Plan.nil (k30 _ _ ?_); clear k30
  by_cases hc31 : i_25 < 8
  ·
   replace hR := ifT hR hc31
   refine W.condT (congrArg Value.bool (decide_eq_true hc31)) ?_
   refine W.skip ?_
   refine k29 _ _ ?_; clear k29
   refine W.seq_k fun _ k32 => ?_
   refine W.block ?_
   refine W.seq_k fun _ k33 => W.regionT [(0, true), (1, true), (2, true), (3, true), (4, true)] (by kernel_rfl) ?_
   refine Plan.move_int rfl rfl <| Plan.move_int rfl rfl <| Plan.shrU .u8 (X := b2) (c := i_25) rfl rfl rfl <| Plan.andU .u8 (X := (b2 >>> i_25)) (Y := 1#8) rfl rfl rfl <| Plan.cmpP (a := (((b2 >>> i_25) &&& (1#8)).toNat : Int)) (b := ((1#8).toNat : Int)) (p := ((b2 >>> i_25) &&& (1#8)) = 1#8) rfl rfl rfl rfl icmp_eqU <| Plan.nil (k33 _ _ ?_); clear k33
   by_cases hc34 : ((b2 >>> i_25) &&& (1#8)) = 1#8
   ·
    replace hR := ifT hR hc34
    refine W.condT (congrArg Value.bool (decide_eq_true hc34)) ?_
    refine W.regionT [(0, true), (1, true), (2, true), (3, true), (4, true), (5, true), (6, true)] (by kernel_rfl) ?_
    refine Plan.move_int rfl rfl <| Plan.move_int rfl rfl <| Plan.convN (a := a1.toNat) FRef04.u3 FRef04.some5 rfl rfl (Nat.lt_of_lt_of_le a1.isLt (by decide)) <| Plan.move_int rfl rfl ?_
    obtain ⟨hc35, hR⟩ := hR
    refine Plan.shlN (a := a1.toNat) (c := i_25) rfl rfl rfl hc35.1 hc35.2 ?_
    obtain ⟨hc36, hR⟩ := hR
    refine Plan.xorN (a := p24) (b := (a1.toNat * 2 ^ i_25)) rfl rfl rfl (by omega) <| Plan.assign_int rfl rfl <| Plan.nil ?_
    refine blockR_norm ?_
    refine k32 _ _ ?_; clear k32
    refine W.regionT [(0, true), (1, true), (2, true)] (by kernel_rfl) ?_
    refine Plan.move_int rfl rfl <| Plan.addN (a := i_25) (b := 1) rfl rfl rfl (by omega) <| Plan.assign_int rfl rfl <| Plan.nil ?_
    exact iterR_norm ⟨_, hR, (zer (zer (zer (zer zen)))), h28⟩
   ·
    replace hR := ifF hR hc34
    refine W.condF (congrArg Value.bool (decide_eq_false hc34)) ?_
    refine W.skip ?_
    refine blockR_norm ?_
    refine k32 _ _ ?_; clear k32
    refine W.regionT [(0, true), (1, true), (2, true)] (by kernel_rfl) ?_
    refine Plan.move_int rfl rfl <| Plan.addN (a := i_25) (b := 1) rfl rfl rfl (by omega) <| Plan.assign_int rfl rfl <| Plan.nil ?_
    exact iterR_norm ⟨_, hR, (zer (zer (zer (zer zen)))), h28⟩
  ·
   replace hR := ifF hR hc31
   refine W.condF (congrArg Value.bool (decide_eq_false hc31)) ?_
   refine W.exit (thenR_exit (iterR_exit (blockR_here ?_)))
   exact ⟨p24, (hx27 _ hR).symm, (zer zen), h28⟩
 ·
  rintro ev37 wl37 ⟨y_p26, hy37, he37, h37⟩
  obtain ⟨ev37, rfl⟩ := he37.open
  subst hy37
  replace hR := hR027
  refine k5 _ _ ?_; clear k5
  refine W.seq_k fun _ k38 => W.seq_k fun _ k39 => ?_
  refine W.regionT [(0, true)] (by kernel_rfl) ?_
  refine Plan.assign_int rfl rfl <| Plan.nil (k39 _ _ ?_); clear k39
  obtain ⟨p84, hI85, hR085⟩ := hR
  refine W.cutN (fun e w => ∃ y_p84 : Nat, p84 = y_p84 ∧ EnvHas e [(5, VN y_p84)] ∧ St B w0 (L) w) ?_ ?_
  ·
   refine W.block ?_
   refine W.iter hI85 (fun (s85 : (Nat × Int)) e w => EnvHas e [(5, VN s85.1), (7, .int .i64 s85.2)] ∧ St B w0 (L) w) ⟨(zer (zer zen)), h37⟩ ?_
   rintro ⟨p82, i_83⟩ o85 hR hx85 ev86 wl86 ⟨he86, h86⟩
   obtain ⟨ev86, rfl⟩ := he86.open
   unfold letheref04_Mul_l1 at hR
   refine W.seq_k fun _ k87 => W.seq_k fun _ k88 => ?_
   refine W.regionT [(0, true), (1, true)] (by kernel_rfl) ?_
   refine Plan.move_int rfl rfl <| Plan.cmpP (a := (i_83 : Int)) (b := (8 : Int)) (p := 8 ≤ i_83) rfl rfl rfl rfl icmp_ge <| Plan.nil (k88 _ _ ?_); clear k88
   by_cases hc89 : 8 ≤ i_83
   ·
    replace hR := ifT hR hc89
    refine W.condT (congrArg Value.bool (decide_eq_true hc89)) ?_
    refine W.skip ?_
    refine k87 _ _ ?_; clear k87
    refine W.seq_k fun _ k90 => ?_
    refine W.block ?_
    refine W.seq_k fun _ k91 => W.regionT [(0, true), (1, true), (2, true), (3, true), (4, true)] (by kernel_rfl) ?_
    refine Plan.move_int rfl rfl <| Plan.move_int rfl rfl ?_
    obtain ⟨hc92, hR⟩ := hR
    obtain ⟨hc93, hR⟩ := hR
    refine Plan.shrN (a := p82) (c := i_83.toNat) rfl rfl (congrArg (Value.int .i64) (Int.toNat_of_nonneg hc92).symm) (by omega) ?_
    obtain ⟨hc94, hR⟩ := hR
    refine Plan.andN (a := (p82 / 2 ^ i_83.toNat)) (b := 1) rfl rfl rfl (by omega) <| Plan.cmpP (a := (((((p82 / 2 ^ i_83.toNat) &&& 1) : Nat) : Int) : Int)) (b := (1 : Int)) (p := ((p82 / 2 ^ i_83.toNat) &&& 1) = 1) rfl rfl rfl rfl icmp_eqN <| Plan.nil (k91 _ _ ?_); clear k91
    by_cases hc95 : ((p82 / 2 ^ i_83.toNat) &&& 1) = 1
    ·
     replace hR := ifT hR hc95
     refine W.condT (congrArg Value.bool (decide_eq_true hc95)) ?_
     refine W.regionT [(0, true), (1, true), (2, true), (3, true), (4, true), (5, true)] (by kernel_rfl) ?_
     refine Plan.move_int rfl rfl <| Plan.move_int rfl rfl ?_
     obtain ⟨hc96, hR⟩ := hR
     refine Plan.subI (a := i_83) (b := 8) rfl rfl rfl (by omega) ?_
     obtain ⟨hc97, hR⟩ := hR
     obtain ⟨hc98, hR⟩ := hR
     refine Plan.shlN (a := 283) (c := (i_83 - 8).toNat) rfl rfl (congrArg (Value.int .i64) (Int.toNat_of_nonneg hc97).symm) hc98.1 hc98.2 ?_
     obtain ⟨hc99, hR⟩ := hR
     refine Plan.xorN (a := p82) (b := (283 * 2 ^ ((i_83 - 8).toNat))) rfl rfl rfl (by omega) <| Plan.assign_int rfl rfl <| Plan.nil ?_
     refine blockR_norm ?_
     refine k90 _ _ ?_; clear k90
     refine W.regionT [(0, true), (1, true), (2, true)] (by kernel_rfl) ?_
     refine Plan.move_int rfl rfl ?_
     obtain ⟨hc100, hR⟩ := hR
     refine Plan.subI (a := i_83) (b := 1) rfl rfl rfl (by omega) <| Plan.assign_int rfl rfl <| Plan.nil ?_
     exact iterR_norm ⟨_, hR, (zer (zer zen)), h86⟩
    ·
     replace hR := ifF hR hc95
     refine W.condF (congrArg Value.bool (decide_eq_false hc95)) ?_
     refine W.skip ?_
     refine blockR_norm ?_
     refine k90 _ _ ?_; clear k90
     refine W.regionT [(0, true), (1, true), (2, true)] (by kernel_rfl) ?_
     refine Plan.move_int rfl rfl ?_
     obtain ⟨hc101, hR⟩ := hR
     refine Plan.subI (a := i_83) (b := 1) rfl rfl rfl (by omega) <| Plan.assign_int rfl rfl <| Plan.nil ?_
     exact iterR_norm ⟨_, hR, (zer (zer zen)), h86⟩
   ·
    replace hR := ifF hR hc89
    refine W.condF (congrArg Value.bool (decide_eq_false hc89)) ?_
    refine W.exit (thenR_exit (iterR_exit (blockR_here ?_)))
    exact ⟨p82, (hx85 _ hR).symm, (zer zen), h86⟩
  ·
   rintro ev102 wl102 ⟨y_p84, hy102, he102, h102⟩
   obtain ⟨ev102, rfl⟩ := he102.open
   subst hy102
   replace hR := hR085
   refine k38 _ _ ?_; clear k38
   refine W.seq_k fun _ k103 => W.regionT [(0, true), (1, true), (2, true)] (by kernel_rfl) ?_
   refine Plan.move_int rfl rfl <| Plan.convNU .u8 (a := p84) FRef04.u5 FRef04.some3 rfl rfl <| Plan.assign_int rfl rfl <| Plan.nil (k103 _ _ ?_); clear k103
   refine W.ret (finR_ret ?_)
   subst r
   refine RetOk.mk (.tmp_int rfl .nil) ?_
   exact ⟨rfl, h102⟩
theorem letheref04_New_ok {B : Nat} {w0 w : World} {L : List Rg} {key1 : List Byte} {akey1 : Option Addr} {nkey1 ckey1 ikey1 : Nat} (hkey1 : Bx L ikey1 akey1 nkey1 ckey1 key1) {r : Unit ⊕ ((List (Nat → BitVec 8)) × (Nat → BitVec 8) × (Nat → BitVec 8))} (hR : letheref04_New key1 r) (HST : St B w0 (L) w) :
  Calls Try.prog 38 #[.slice akey1 nkey1 ckey1] w fun e w' => match r with | .inl z => e = .returned (.pointer none) ∧ St B w0 (L) w' | .inr z => ∃ b0 : Nat, ∃ aw0_0 : Option Addr, ∃ pw0_0 : Option Nat, ∃ nw0_0 : Nat, ∃ cw0_0 : Nat, ∃ Fw0_0 : Nat → Value, e = .returned (.pointer (some ⟨b0, 0, none⟩)) ∧ St B w0 (⟨some b0, 0, 1, fun _ => .slice aw0_0 nw0_0 cw0_0, true⟩ :: ⟨pw0_0, 0, cw0_0 * 4, Fw0_0, true⟩ :: ⟨some b0, 1, 256, fun q => VU .u8 (z.2.1 q), true⟩ :: ⟨some b0, 257, 256, fun q => VU .u8 (z.2.2 q), true⟩ :: L) w' ∧ LO D76 [] aw0_0 pw0_0 nw0_0 cw0_0 Fw0_0 z.1 := by
 refine W.enter 216 Try.func38 rfl rfl rfl ?_
 unfold letheref04_New at hR
 have ekey1 := hkey1.hl; subst ekey1
 refine W.seq_k fun _ k2 => W.regionT [(0, true)] (by kernel_rfl) ?_
 refine Plan.assign_ptr rfl rfl <| Plan.nil (k2 _ _ ?_); clear k2
 refine W.seq_k fun _ k3 => W.regionT [(0, true), (1, true), (2, true), (3, true)] (by kernel_rfl) ?_
 refine Plan.move_slice rfl rfl <| Plan.len FRef04.isl28 rfl rfl ?_
 obtain ⟨hc4, hR⟩ := hR
 refine Plan.quoN (a := key1.length) (b := 4) rfl rfl rfl (by omega) <| Plan.assign_int rfl rfl <| Plan.nil (k3 _ _ ?_); clear k3
 refine W.seq_k fun _ k5 => ?_
 obtain ⟨ok11, hX11, hR011⟩ := hR
 refine W.cutN (fun e w => (ok11 = true) ∧ EnvHas e [(0, .slice akey1 key1.length ckey1), (3, VN (key1.length / 4))] ∧ St B w0 (L) w) ?_ ?_
 ·
  replace hR := hX11
  refine W.seq_k fun _ k12 => W.regionT [(0, true), (1, true), (2, true), (3, true), (4, true), (5, true), (6, true), (7, true), (8, true), (9, true), (10, true), (11, true), (12, true)] (by kernel_rfl) ?_
  refine Plan.move_slice rfl rfl <| Plan.len FRef04.isl28 rfl rfl ?_
  by_cases hc13 : key1.length ≠ 16
  ·
   replace hR := ifT hR hc13
   refine Plan.cmpV (a := (((key1.length : Nat) : Int) : Int)) (b := (16 : Int)) (p := key1.length ≠ 16) (v := true) rfl rfl rfl rfl icmp_neN (decide_eq_true hc13) <| Plan.move_bool rfl rfl <| Plan.move_slice rfl rfl <| Plan.len FRef04.isl28 rfl rfl ?_
   by_cases hc14 : key1.length ≠ 24
   ·
    replace hR := ifT hR hc14
    refine Plan.cmpV (a := (((key1.length : Nat) : Int) : Int)) (b := (24 : Int)) (p := key1.length ≠ 24) (v := true) rfl rfl rfl rfl icmp_neN (decide_eq_true hc14) <| Plan.pickTb rfl rfl rfl <| Plan.move_bool rfl rfl <| Plan.move_slice rfl rfl <| Plan.len FRef04.isl28 rfl rfl <| Plan.cmpP (a := (((key1.length : Nat) : Int) : Int)) (b := (32 : Int)) (p := key1.length ≠ 32) rfl rfl rfl rfl icmp_neN <| Plan.pickTb rfl rfl rfl <| Plan.nil (k12 _ _ ?_); clear k12
    by_cases hc15 : key1.length ≠ 32
    ·
     replace hR := ifT hR hc15
     refine W.condT (congrArg Value.bool (decide_eq_true hc15)) ?_
     refine W.seq_k fun _ k16 => W.regionT [(0, true)] (by kernel_rfl) ?_
     refine Plan.assign_ptr rfl rfl <| Plan.nil (k16 _ _ ?_); clear k16
     refine W.ret (thenR_ret (thenR_ret (finR_ret ?_)))
     replace hR := hR.2
     subst r
     refine RetOk.mk (.tmp_ptr rfl .nil) ?_
     exact ⟨rfl, HST⟩
    ·
     replace hR := ifF hR hc15
     refine W.condF (congrArg Value.bool (decide_eq_false hc15)) ?_
     refine W.skip ?_
     exact ⟨hR, (zer (zer zen)), HST⟩
   ·
    replace hR := ifF hR hc14
    refine Plan.cmpV (a := (((key1.length : Nat) : Int) : Int)) (b := (24 : Int)) (p := key1.length ≠ 24) (v := false) rfl rfl rfl rfl icmp_neN (decide_eq_false hc14) <| Plan.pickTb rfl rfl rfl <| Plan.move_bool rfl rfl <| Plan.passed rfl <| Plan.passed rfl <| Plan.passed rfl <| Plan.pickFb rfl rfl rfl <| Plan.nil (k12 _ _ ?_); clear k12
    refine W.condF rfl ?_
    refine W.skip ?_
    exact ⟨hR, (zer (zer zen)), HST⟩
  ·
   replace hR := ifF hR hc13
   refine Plan.cmpV (a := (((key1.length : Nat) : Int) : Int)) (b := (16 : Int)) (p := key1.length ≠ 16) (v := false) rfl rfl rfl rfl icmp_neN (decide_eq_false hc13) <| Plan.move_bool rfl rfl <| Plan.passed rfl <| Plan.passed rfl <| Plan.passed rfl <| Plan.pickFb rfl rfl rfl <| Plan.move_bool rfl rfl <| Plan.passed rfl ?_
   refine Plan.passed rfl <| Plan.passed rfl <| Plan.pickFb rfl rfl rfl <| Plan.nil (k12 _ _ ?_); clear k12
   refine W.condF rfl ?_
   refine W.skip ?_
   exact ⟨hR, (zer (zer zen)), HST⟩
 ·
  rintro ev17 wl17 ⟨hy17_0, he17, h17⟩
  obtain ⟨ev17, rfl⟩ := he17.open
  replace hR := hR011 hy17_0
  refine k5 _ _ ?_; clear k5
  refine W.seq_k fun _ k18 => W.regionT [(0, false), (1, true), (2, false), (3, true)] (by kernel_rfl) ?_
  obtain ⟨x_20, hr19, hR⟩ := hR
  refine Plan.call (vs := []) rfl FRef04.call41 rfl (letheref04_box_ok  hr19 h17) ?_
  rintro _ w21 ⟨rfl, h21⟩
  refine ⟨_, rfl, .inl ⟨PIn.keep PIn.nil h21, ?_⟩⟩
  refine Plan.buildP (ps := [(1, fun _ => .slice none 0 0), (256, fun q => VU .u8 (x_20 q)), (256, fun q => VU .u8 ((fun _ => 0#8) q))]) FRef04.pl84 (by decide) FRef04.z84 rfl rfl (.agg [(1, fun _ => .slice none 0 0)] [(256, fun q => VU .u8 ((fun _ => 0#8) q))] [(256, fun q => VU .u8 ((fun _ => 0#8) q))] [(256, fun q => VU .u8 (x_20 q))] rfl rfl .nil) ?_
  refine Plan.boxA h21 rfl rfl PIn.nil fun b22 w22 hb22 h22 => ?_
  simp only [rngs, Nat.zero_add, Nat.reduceAdd, zca, zna] at h22
  refine Plan.assign_ptr rfl rfl <| Plan.nil (k18 _ _ ?_); clear k18
  refine W.seq_k fun _ k23 => W.seq_k fun _ k24 => ?_
  refine W.regionT [(0, true)] (by kernel_rfl) ?_
  refine Plan.assign_int rfl rfl <| Plan.nil (k24 _ _ ?_); clear k24
  obtain ⟨m40, hI41, hR041⟩ := hR
  refine W.cutN (fun e w => ∃ y_m40 : Nat → BitVec 8, m40 = y_m40 ∧ EnvHas e [(0, .slice akey1 key1.length ckey1), (3, VN (key1.length / 4)), (4, .pointer (some ⟨b22, 0, none⟩))] ∧ St B w0 (⟨some b22, 0, 1, fun _ => .slice none 0 0, true⟩ :: ⟨some b22, 1, 256, fun q => VU .u8 (x_20 q), true⟩ :: ⟨some b22, 257, 256, fun q => VU .u8 (y_m40 q), true⟩ :: L) w) ?_ ?_
  ·
   refine W.block ?_
   refine W.iter hI41 (fun (s41 : (Nat × (Nat → BitVec 8))) e w => EnvHas e [(0, .slice akey1 key1.length ckey1), (3, VN (key1.length / 4)), (4, .pointer (some ⟨b22, 0, none⟩)), (5, VN s41.1)] ∧ St B w0 (⟨some b22, 0, 1, fun _ => .slice none 0 0, true⟩ :: ⟨some b22, 1, 256, fun q => VU .u8 (x_20 q), true⟩ :: ⟨some b22, 257, 256, fun q => VU .u8 (s41.2 q), true⟩ :: L) w) ⟨(zer (zer (zer (zer zen)))), h22⟩ ?_
   rintro ⟨a38, m39⟩ o41 hR hx41 ev42 wl42 ⟨he42, h42⟩
   obtain ⟨ev42, rfl⟩ := he42.open
   unfold letheref04_New_l0 at hR
   refine W.seq_k fun _ k43 => W.seq_k fun _ k44 => ?_
   refine W.regionT [(0, true), (1, true)] (by kernel_rfl) ?_
   refine Plan.move_int rfl rfl <| Plan.cmpP (a := (((a38 : Nat) : Int) : Int)) (b := (256 : Int)) (p := a38 < 256) rfl rfl rfl rfl icmp_ltN <| Plan.nil (k44 _ _ ?_); clear k44
   by_cases hc45 : a38 < 256
   ·
    replace hR := ifT hR hc45
    refine W.condT (congrArg Value.bool (decide_eq_true hc45)) ?_
    refine W.skip ?_
    refine k43 _ _ ?_; clear k43
    refine W.seq_k fun _ k46 => ?_
    refine W.block ?_
    refine W.regionD FRef04.mixed [(0, true), (1, true), (2, true), (3, true), (4, true), (5, true), (6, true), (7, true), (8, true), (9, true), (10, true), (11, true), (12, false)] (by kernel_rfl) ?_
    have h47 := h42.drew
    refine Plan.move_ptr rfl rfl <| Plan.move_ptr rfl rfl <| Plan.move_int rfl rfl <| Plan.nilCheck rfl rfl <| Plan.fieldAddr 1 FRef04.fld84_1 rfl rfl <| Plan.idxArr1 (j := a38) FRef04.arr59 rfl rfl rfl (by omega) <| Plan.load1 (j := a38) h47 1 rfl rfl rfl (by omega) FRef04.sc5 <| Plan.move_int rfl rfl ?_
    refine Plan.convNU .u8 (a := a38) FRef04.u5 FRef04.some3 rfl rfl <| Plan.nilCheck rfl rfl <| Plan.fieldAddr 257 FRef04.fld84_2 rfl rfl <| Plan.idxArr1 (j := (x_20 a38).toNat) FRef04.arr59 rfl rfl rfl (x_20 a38).isLt ?_
    refine Plan.storeU (j := (x_20 a38).toNat) (X := (BitVec.ofNat 8 a38)) h47 2 rfl rfl rfl rfl (by first | omega | exact (x_20 a38).isLt) FRef04.sz5 rfl fun w48 h48 => ?_
    simp only [zca, zna, zsz, zss] at h48
    refine Plan.nil ?_
    refine blockR_norm ?_
    refine k46 _ _ ?_; clear k46
    refine W.regionT [(0, true), (1, true), (2, true)] (by kernel_rfl) ?_
    refine Plan.move_int rfl rfl <| Plan.addN (a := a38) (b := 1) rfl rfl rfl (by omega) <| Plan.assign_int rfl rfl <| Plan.nil ?_
    exact iterR_norm ⟨_, hR, (zer (zer (zer (zer zen)))), h48⟩
   ·
    replace hR := ifF hR hc45
    refine W.condF (congrArg Value.bool (decide_eq_false hc45)) ?_
    refine W.exit (thenR_exit (iterR_exit (blockR_here ?_)))
    exact ⟨m39, (hx41 _ hR).symm, (zer (zer (zer zen))), h42⟩
  ·
   rintro ev49 wl49 ⟨y_m40, hy49, he49, h49⟩
   obtain ⟨ev49, rfl⟩ := he49.open
   subst hy49
   replace hR := hR041
   refine k23 _ _ ?_; clear k23
   refine W.seq_k fun _ k50 => W.seq_k fun _ k51 => ?_
   refine W.regionT [(0, true)] (by kernel_rfl) ?_
   refine Plan.assign_int rfl rfl <| Plan.nil (k51 _ _ ?_); clear k51
   have h105 : St B w0 (⟨none, 0, 0 * 4, fun _ => undef, true⟩ :: _) _ := h49.nilE (fun _ => undef)
   obtain ⟨m103, hI104, hR0104⟩ := hR
   refine W.cutN (fun e w => ∃ y_m103 : List (Nat → BitVec 8), m103 = y_m103 ∧ ∃ n_m103 : Nat, ∃ am103 : Option Addr, ∃ pm103 : Option Nat, ∃ cm103 : Nat, ∃ Fm103 : Nat → Value, EnvHas e [(3, VN (key1.length / 4)), (4, .pointer (some ⟨b22, 0, none⟩))] ∧ St B w0 (⟨pm103, 0, cm103 * 4, Fm103, true⟩ :: ⟨some b22, 0, 1, fun _ => .slice am103 n_m103 cm103, true⟩ :: ⟨some b22, 1, 256, fun q => VU .u8 (x_20 q), true⟩ :: ⟨some b22, 257, 256, fun q => VU .u8 (m40 q), true⟩ :: L) w ∧ LO D76 [] am103 pm103 n_m103 cm103 Fm103 y_m103) ?_ ?_
   ·
    refine W.block ?_
    refine W.iter hI104 (fun (s104 : (Nat × (List (Nat → BitVec 8)))) e w => ∃ n_m101 : Nat, ∃ am101 : Option Addr, ∃ pm101 : Option Nat, ∃ cm101 : Nat, ∃ Fm101 : Nat → Value, EnvHas e [(0, .slice akey1 key1.length ckey1), (3, VN (key1.length / 4)), (4, .pointer (some ⟨b22, 0, none⟩)), (6, VN s104.1)] ∧ St B w0 (⟨pm101, 0, cm101 * 4, Fm101, true⟩ :: ⟨some b22, 0, 1, fun _ => .slice am101 n_m101 cm101, true⟩ :: ⟨some b22, 1, 256, fun q => VU .u8 (x_20 q), true⟩ :: ⟨some b22, 257, 256, fun q => VU .u8 (m40 q), true⟩ :: L) w ∧ LO D76 [] am101 pm101 n_m101 cm101 Fm101 s104.2) ⟨0, none, none, 0, (fun _ => undef), (zer (zer (zer (zer zen)))), h105, LO.nil⟩ ?_
    rintro ⟨i_100, m101⟩ o104 hR hx104 ev106 wl106 ⟨n_m101, am101, pm101, cm101, Fm101, he106, h106, hm101⟩
    try dsimp only at he106 h106 hm101
    obtain rfl : List.length (α := (Nat → BitVec 8)) m101 = n_m101 := hm101.hl
    obtain ⟨ev106, rfl⟩ := he106.open
    unfold letheref04_New_l1 at hR
    refine W.seq_k fun _ k107 => W.seq_k fun _ k108 => ?_
    refine W.regionT [(0, true), (1, true), (2, true)] (by kernel_rfl) ?_
    refine Plan.move_int rfl rfl <| Plan.move_int rfl rfl <| Plan.cmpP (a := (((i_100 : Nat) : Int) : Int)) (b := ((((key1.length / 4) : Nat) : Int) : Int)) (p := i_100 < (key1.length / 4)) rfl rfl rfl rfl icmp_ltN <| Plan.nil (k108 _ _ ?_); clear k108
    by_cases hc109 : i_100 < (key1.length / 4)
    ·
     replace hR := ifT hR hc109
     refine W.condT (congrArg Value.bool (decide_eq_true hc109)) ?_
     refine W.skip ?_
     refine k107 _ _ ?_; clear k107
     refine W.seq_k fun _ k110 => ?_
     refine W.block ?_
     refine W.regionD FRef04.mixed [(0, true), (1, true), (2, true), (3, true), (4, true), (5, true), (6, true), (7, true), (8, true), (9, true), (10, true), (11, true), (12, true), (13, true), (14, true), (15, true), (16, true), (17, true), (18, true), (19, true), (20, true), (21, true), (22, true), (23, true), (24, true), (25, true), (26, true), (27, true), (28, true), (29, false), (30, false), (31, true), (32, true), (33, false)] (by kernel_rfl) ?_
     have h111 := h106.drew
     refine Plan.move_ptr rfl rfl <| Plan.move_ptr rfl rfl <| Plan.nilCheck rfl rfl <| Plan.fieldAddr0 FRef04.fld84_0 rfl rfl <| Plan.load0 h111 1 rfl rfl rfl (by omega) FRef04.sc82 <| Plan.move_slice rfl rfl <| Plan.move_int rfl rfl ?_
     obtain ⟨hc112, hR⟩ := hR
     refine Plan.mulN (a := 4) (b := i_100) rfl rfl rfl (by omega) ?_
     obtain ⟨hc113, hR⟩ := hR
     refine Plan.idxVS (j := (4 * i_100)) h111 (hkey1.app [_, _, _, _]) FRef04.sl28 rfl rfl rfl hc113 ?_
     refine Plan.loadV (j := (4 * i_100)) h111 (hkey1.app [_, _, _, _]) rfl rfl hc113 FRef04.sc5 fun r114 hr114 => ?_
     refine Plan.move_slice rfl rfl <| Plan.move_int rfl rfl ?_
     obtain ⟨hc115, hR⟩ := hR
     refine Plan.mulN (a := 4) (b := i_100) rfl rfl rfl (by omega) ?_
     obtain ⟨hc116, hR⟩ := hR
     refine Plan.addN (a := (4 * i_100)) (b := 1) rfl rfl rfl (by omega) ?_
     obtain ⟨hc117, hR⟩ := hR
     refine Plan.idxVS (j := ((4 * i_100) + 1)) h111 (hkey1.app [_, _, _, _]) FRef04.sl28 rfl rfl rfl hc117 ?_
     refine Plan.loadV (j := ((4 * i_100) + 1)) h111 (hkey1.app [_, _, _, _]) rfl rfl hc117 FRef04.sc5 fun r118 hr118 => ?_
     refine Plan.move_slice rfl rfl <| Plan.move_int rfl rfl ?_
     obtain ⟨hc119, hR⟩ := hR
     refine Plan.mulN (a := 4) (b := i_100) rfl rfl rfl (by omega) ?_
     obtain ⟨hc120, hR⟩ := hR
     refine Plan.addN (a := (4 * i_100)) (b := 2) rfl rfl rfl (by omega) ?_
     obtain ⟨hc121, hR⟩ := hR
     refine Plan.idxVS (j := ((4 * i_100) + 2)) h111 (hkey1.app [_, _, _, _]) FRef04.sl28 rfl rfl rfl hc121 ?_
     refine Plan.loadV (j := ((4 * i_100) + 2)) h111 (hkey1.app [_, _, _, _]) rfl rfl hc121 FRef04.sc5 fun r122 hr122 => ?_
     refine Plan.move_slice rfl rfl <| Plan.move_int rfl rfl ?_
     obtain ⟨hc123, hR⟩ := hR
     refine Plan.mulN (a := 4) (b := i_100) rfl rfl rfl (by omega) ?_
     obtain ⟨hc124, hR⟩ := hR
     refine Plan.addN (a := (4 * i_100)) (b := 3) rfl rfl rfl (by omega) ?_
     obtain ⟨hc125, hR⟩ := hR
     refine Plan.idxVS (j := ((4 * i_100) + 3)) h111 (hkey1.app [_, _, _, _]) FRef04.sl28 rfl rfl rfl hc125 ?_
     refine Plan.loadV (j := ((4 * i_100) + 3)) h111 (hkey1.app [_, _, _, _]) rfl rfl hc125 FRef04.sc5 fun r126 hr126 => ?_
     refine Plan.buildArr (ps := [(4, fun q => VU .u8 ((lit [(lit key1 (4 * i_100)), (lit key1 ((4 * i_100) + 1)), (lit key1 ((4 * i_100) + 2)), (lit key1 ((4 * i_100) + 3))]) q))]) FRef04.arr76 FRef04.z76 rfl rfl rfl ?_
     refine Plan.buildLO (D := D76) (sz := 4) h111 [((), (lit [(lit key1 (4 * i_100)), (lit key1 ((4 * i_100) + 1)), (lit key1 ((4 * i_100) + 2)), (lit key1 ((4 * i_100) + 3))]))] FRef04.slu82 FRef04.sz76 FRef04.zv76 (by decide) (by decide) rfl rfl rfl rfl (fun _ _ => trivial) (EffO.keep (PIn.cons (ikey1 + 4) hr126 (PIn.cons (ikey1 + 4) hr122 (PIn.cons (ikey1 + 4) hr118 (PIn.cons (ikey1 + 4) hr114 (PIn.cons 1 rfl PIn.nil)))))) fun b128 w128 F128 hb128 ho128 h128 => ?_
     replace ho128 : LO D76 [] (some ⟨b128, 0, none⟩) (some b128) ([(lit [(lit key1 (4 * i_100)), (lit key1 ((4 * i_100) + 1)), (lit key1 ((4 * i_100) + 2)), (lit key1 ((4 * i_100) + 3))])] : List (Nat → BitVec 8)).length 1 F128 ([(lit [(lit key1 (4 * i_100)), (lit key1 ((4 * i_100) + 1)), (lit key1 ((4 * i_100) + 2)), (lit key1 ((4 * i_100) + 3))])] : List (Nat → BitVec 8)) := ho128.re (fun _ _ h => h)
     obtain ⟨hc130, hR⟩ := hR
     refine Plan.appendLO (D := D76) (X := m101) (Y := ([(lit [(lit key1 (4 * i_100)), (lit key1 ((4 * i_100) + 1)), (lit key1 ((4 * i_100) + 2)), (lit key1 ((4 * i_100) + 3))])] : List (Nat → BitVec 8))) (sz := 4) h128 () (fun _ => 0#8) 1 hm101 rfl FRef04.el82 rfl FRef04.slu82 rfl rfl rfl rfl (LO.lvf D76_flat ho128 0 rfl) (fun _ _ h => h) hc130.1 hc130.2 (fun _ => EffO.mix _ (Filt.keep rfl (Filt.keep rfl (Filt.keep rfl (Filt.keep rfl (Filt.drop rfl Filt.nil))))) (PIn.cons (ikey1 + 5) hr126 (PIn.cons (ikey1 + 5) hr122 (PIn.cons (ikey1 + 5) hr118 (PIn.cons (ikey1 + 5) hr114 PIn.nil))))) fun a129 pb129 cap129 F129 w129 ho129 h129 => ?_
     simp only [zca, zna, zsz, zss] at h129
     replace ho129 : LO D76 [] a129 pb129 (m101 ++ ([(lit [(lit key1 (4 * i_100)), (lit key1 ((4 * i_100) + 1)), (lit key1 ((4 * i_100) + 2)), (lit key1 ((4 * i_100) + 3))])] : List (Nat → BitVec 8))).length cap129 F129 (m101 ++ ([(lit [(lit key1 (4 * i_100)), (lit key1 ((4 * i_100) + 1)), (lit key1 ((4 * i_100) + 2)), (lit key1 ((4 * i_100) + 3))])] : List (Nat → BitVec 8))) := ho129.re (fun _ _ h => h)
     refine Plan.nilCheck rfl rfl <| Plan.fieldAddr0 FRef04.fld84_0 rfl rfl ?_
     refine Plan.storeC h129 2 rfl rfl rfl rfl rfl FRef04.sz82 rfl fun w131 h131 => ?_
     simp only [zca, zna, zsz, zss] at h131
     refine Plan.nil ?_
     refine blockR_norm ?_
     refine k110 _ _ ?_; clear k110
     refine W.regionT [(0, true), (1, true), (2, true)] (by kernel_rfl) ?_
     refine Plan.move_int rfl rfl ?_
     obtain ⟨hc132, hR⟩ := hR
     refine Plan.addN (a := i_100) (b := 1) rfl rfl rfl (by omega) <| Plan.assign_int rfl rfl <| Plan.nil ?_
     have h133 := St.pickT (C := [_, _, _, _, _]) h131 [1, 2, 3, 4] (by decide)
     simp only [pick, zfc, zfn, zgz, zgs, zca, zna] at h133
     exact iterR_norm ⟨_, hR, (m101 ++ ([(lit [(lit key1 (4 * i_100)), (lit key1 ((4 * i_100) + 1)), (lit key1 ((4 * i_100) + 2)), (lit key1 ((4 * i_100) + 3))])] : List (Nat → BitVec 8))).length, a129, pb129, cap129, F129, (zer (zer (zer (zer zen)))), h133, ho129⟩
    ·
     replace hR := ifF hR hc109
     refine W.condF (congrArg Value.bool (decide_eq_false hc109)) ?_
     refine W.exit (thenR_exit (iterR_exit (blockR_here ?_)))
     exact ⟨m101, (hx104 _ hR).symm, m101.length, am101, pm101, cm101, Fm101, (zer (zer zen)), h106, hm101⟩
   ·
    rintro ev134 wl134 ⟨y_m103, hy134, n_m103, am103, pm103, cm103, Fm103, he134, h134, hm103⟩
    obtain ⟨ev134, rfl⟩ := he134.open
    subst hy134
    replace hR := hR0104
    obtain rfl : List.length (α := (Nat → BitVec 8)) m103 = n_m103 := hm103.hl
    refine k50 _ _ ?_; clear k50
    refine W.seq_k fun _ k135 => W.regionT [(0, true)] (by kernel_rfl) ?_
    refine Plan.assign_int rfl rfl <| Plan.nil (k135 _ _ ?_); clear k135
    refine W.seq_k fun _ k136 => W.seq_k fun _ k137 => ?_
    refine W.regionT [(0, true), (1, true)] (by kernel_rfl) ?_
    refine Plan.move_int rfl rfl <| Plan.assign_int rfl rfl <| Plan.nil (k137 _ _ ?_); clear k137
    obtain ⟨m268, hI269, hR0269⟩ := hR
    refine W.cutN (fun e w => ∃ y_m268 : List (Nat → BitVec 8), m268 = y_m268 ∧ ∃ n_m268 : Nat, ∃ am268 : Option Addr, ∃ pm268 : Option Nat, ∃ cm268 : Nat, ∃ Fm268 : Nat → Value, EnvHas e [(4, .pointer (some ⟨b22, 0, none⟩))] ∧ St B w0 (⟨pm268, 0, cm268 * 4, Fm268, true⟩ :: ⟨some b22, 0, 1, fun _ => .slice am268 n_m268 cm268, true⟩ :: ⟨some b22, 1, 256, fun q => VU .u8 (x_20 q), true⟩ :: ⟨some b22, 257, 256, fun q => VU .u8 (m40 q), true⟩ :: L) w ∧ LO D76 [] am268 pm268 n_m268 cm268 Fm268 y_m268) ?_ ?_
    ·
     refine W.block ?_
     refine W.iter hI269 (fun (s269 : ((BitVec 8) × Nat × (List (Nat → BitVec 8)))) e w => ∃ n_m267 : Nat, ∃ am267 : Option Addr, ∃ pm267 : Option Nat, ∃ cm267 : Nat, ∃ Fm267 : Nat → Value, EnvHas e [(3, VN (key1.length / 4)), (4, .pointer (some ⟨b22, 0, none⟩)), (7, VU .u8 s269.1), (8, VN s269.2.1)] ∧ St B w0 (⟨pm267, 0, cm267 * 4, Fm267, true⟩ :: ⟨some b22, 0, 1, fun _ => .slice am267 n_m267 cm267, true⟩ :: ⟨some b22, 1, 256, fun q => VU .u8 (x_20 q), true⟩ :: ⟨some b22, 257, 256, fun q => VU .u8 (m40 q), true⟩ :: L) w ∧ LO D76 [] am267 pm267 n_m267 cm267 Fm267 s269.2.2) ⟨m103.length, am103, pm103, cm103, Fm103, (zer (zer (zer (zer zen)))), h134, hm103⟩ ?_
     rintro ⟨power265, i_266, m267⟩ o269 hR hx269 ev270 wl270 ⟨n_m267, am267, pm267, cm267, Fm267, he270, h270, hm267⟩
     try dsimp only at he270 h270 hm267
     obtain rfl : List.length (α := (Nat → BitVec 8)) m267 = n_m267 := hm267.hl
     obtain ⟨ev270, rfl⟩ := he270.open
     unfold letheref04_New_l2 at hR
     refine W.seq_k fun _ k271 => W.seq_k fun _ k272 => ?_
     refine W.regionT [(0, true), (1, true), (2, true), (3, true), (4, true)] (by kernel_rfl) ?_
     refine Plan.move_int rfl rfl <| Plan.move_int rfl rfl ?_
     obtain ⟨hc273, hR⟩ := hR
     refine Plan.addN (a := (key1.length / 4)) (b := 7) rfl rfl rfl (by omega) ?_
     obtain ⟨hc274, hR⟩ := hR
     refine Plan.mulN (a := 4) (b := ((key1.length / 4) + 7)) rfl rfl rfl (by omega) <| Plan.cmpP (a := (((i_266 : Nat) : Int) : Int)) (b := ((((4 * ((key1.length / 4) + 7)) : Nat) : Int) : Int)) (p := i_266 < (4 * ((key1.length / 4) + 7))) rfl rfl rfl rfl icmp_ltN <| Plan.nil (k272 _ _ ?_); clear k272
     by_cases hc275 : i_266 < (4 * ((key1.length / 4) + 7))
     ·
      replace hR := ifT hR hc275
      refine W.condT (congrArg Value.bool (decide_eq_true hc275)) ?_
      refine W.skip ?_
      refine k271 _ _ ?_; clear k271
      refine W.seq_k fun _ k276 => ?_
      refine W.block ?_
      refine W.seq_k fun _ k277 => W.regionT [(0, true), (1, true), (2, true), (3, true), (4, true), (5, true), (6, true), (7, true), (8, false), (9, false)] (by kernel_rfl) ?_
      refine Plan.move_ptr rfl rfl <| Plan.nilCheck rfl rfl <| Plan.fieldAddr0 FRef04.fld84_0 rfl rfl <| Plan.load0 h270 1 rfl rfl rfl (by omega) FRef04.sc82 <| Plan.move_int rfl rfl ?_
      obtain ⟨hc278, hR⟩ := hR
      refine Plan.subI (a := ((i_266 : Nat) : Int)) (b := 1) rfl rfl rfl (by omega) ?_
      obtain ⟨hc279, hR⟩ := hR
      refine Plan.idxLVS (D := D76) (j := (((i_266 : Nat) : Int) - 1).toNat) h270 (LO.lvf D76_flat hm267 0 rfl) FRef04.sl82 rfl rfl (congrArg (Value.int .i64) (Int.toNat_of_nonneg hc279.1).symm) (toNat_lt hc279.1 hc279.2) ?_
      refine Plan.loadLV (D := D76) (X := m267) (j := (((i_266 : Nat) : Int) - 1).toNat) (sz := 4) h270 (fun _ => 0#8) (LO.lvf D76_flat hm267 0 rfl) rfl rfl (toNat_lt hc279.1 hc279.2) rfl FRef04.agg76 fun b280 r280 hs280 hr280 => ?_
      refine Plan.alloc h270 rfl FRef04.z76 (PIn.cons 0 hr280 (PIn.cons 1 rfl PIn.nil)) fun b281 w281 hb281 h281 => ?_
      simp only [rngs, Nat.zero_add, Nat.reduceAdd, zca, zna] at h281
      refine Plan.storeA (f' := fun q => VU .u8 ((m267.getD ((((i_266 : Nat) : Int) - 1).toNat) (fun _ => 0#8)) q)) h281 0 rfl rfl rfl rfl (fun _ _ => rfl) FRef04.sz76 rfl fun w282 h282 => ?_
      simp only [zca, zna, zsz, zss] at h282
      refine Plan.nil (k277 _ _ ?_); clear k277
      refine W.seq_k fun _ k283 => ?_
      obtain ⟨power300, m301, hX302, hR0302⟩ := hR
      refine W.cutN (fun e w => ∃ y_power300 : BitVec 8, ∃ y_m301 : Nat → BitVec 8, (power300 = y_power300 ∧ m301 = y_m301) ∧ EnvHas e [(3, VN (key1.length / 4)), (4, .pointer (some ⟨b22, 0, none⟩)), (7, VU .u8 y_power300), (8, VN i_266), (9, .pointer (some ⟨b281, 0, none⟩))] ∧ St B w0 (⟨some b281, 0, 4, fun q => VU .u8 (y_m301 q), true⟩ :: ⟨pm267, 0, cm267 * 4, Fm267, true⟩ :: ⟨some b22, 0, 1, fun _ => .slice am267 m267.length cm267, true⟩ :: ⟨some b22, 1, 256, fun q => VU .u8 (x_20 q), true⟩ :: ⟨some b22, 257, 256, fun q => VU .u8 (m40 q), true⟩ :: L) w) ?_ ?_
      ·
       replace hR := hX302
       refine W.seq_k fun _ k303 => W.regionT [(0, true), (1, true), (2, true), (3, true)] (by kernel_rfl) ?_
       refine Plan.move_int rfl rfl <| Plan.move_int rfl rfl ?_
       obtain ⟨hc304, hR⟩ := hR
       refine Plan.remN (a := i_266) (b := (key1.length / 4)) rfl rfl rfl (by omega) <| Plan.cmpP (a := ((((i_266 % (key1.length / 4)) : Nat) : Int) : Int)) (b := (0 : Int)) (p := (i_266 % (key1.length / 4)) = 0) rfl rfl rfl rfl icmp_eqN <| Plan.nil (k303 _ _ ?_); clear k303
       by_cases hc305 : (i_266 % (key1.length / 4)) = 0
       ·
        replace hR := ifT hR hc305
        refine W.condT (congrArg Value.bool (decide_eq_true hc305)) ?_
        refine W.seq_k fun _ k306 => ?_
        refine W.regionD FRef04.mixed [(0, true), (1, true), (2, true), (3, true), (4, true), (5, true), (6, true), (7, true), (8, true), (9, true), (10, true), (11, true), (12, true), (13, true), (14, true), (15, true), (16, true), (17, true), (18, true), (19, true), (20, true), (21, true), (22, true), (23, true), (24, true), (25, true), (26, true), (27, true), (28, true), (29, false)] (by kernel_rfl) ?_
        have h307 := h282.drew
        refine Plan.move_ptr rfl rfl <| Plan.idxArr1 (j := 1) FRef04.arr76 rfl rfl rfl (by omega) <| Plan.load1 (j := 1) h307 0 rfl rfl rfl (by omega) FRef04.sc5 <| Plan.nilCheck rfl rfl <| Plan.fieldAddr 1 FRef04.fld84_1 rfl rfl ?_
        refine Plan.idxArr1 (j := ((m267.getD ((((i_266 : Nat) : Int) - 1).toNat) (fun _ => 0#8)) 1).toNat) FRef04.arr59 rfl rfl rfl ((m267.getD ((((i_266 : Nat) : Int) - 1).toNat) (fun _ => 0#8)) 1).isLt ?_
        refine Plan.load1 (j := ((m267.getD ((((i_266 : Nat) : Int) - 1).toNat) (fun _ => 0#8)) 1).toNat) h307 3 rfl rfl rfl (by first | omega | exact ((m267.getD ((((i_266 : Nat) : Int) - 1).toNat) (fun _ => 0#8)) 1).isLt) FRef04.sc5 ?_
        refine Plan.move_ptr rfl rfl <| Plan.idxArr1 (j := 2) FRef04.arr76 rfl rfl rfl (by omega) <| Plan.load1 (j := 2) h307 0 rfl rfl rfl (by omega) FRef04.sc5 <| Plan.nilCheck rfl rfl <| Plan.fieldAddr 1 FRef04.fld84_1 rfl rfl ?_
        refine Plan.idxArr1 (j := ((m267.getD ((((i_266 : Nat) : Int) - 1).toNat) (fun _ => 0#8)) 2).toNat) FRef04.arr59 rfl rfl rfl ((m267.getD ((((i_266 : Nat) : Int) - 1).toNat) (fun _ => 0#8)) 2).isLt ?_
        refine Plan.load1 (j := ((m267.getD ((((i_266 : Nat) : Int) - 1).toNat) (fun _ => 0#8)) 2).toNat) h307 3 rfl rfl rfl (by first | omega | exact ((m267.getD ((((i_266 : Nat) : Int) - 1).toNat) (fun _ => 0#8)) 2).isLt) FRef04.sc5 ?_
        refine Plan.move_ptr rfl rfl <| Plan.idxArr1 (j := 3) FRef04.arr76 rfl rfl rfl (by omega) <| Plan.load1 (j := 3) h307 0 rfl rfl rfl (by omega) FRef04.sc5 <| Plan.nilCheck rfl rfl <| Plan.fieldAddr 1 FRef04.fld84_1 rfl rfl ?_
        refine Plan.idxArr1 (j := ((m267.getD ((((i_266 : Nat) : Int) - 1).toNat) (fun _ => 0#8)) 3).toNat) FRef04.arr59 rfl rfl rfl ((m267.getD ((((i_266 : Nat) : Int) - 1).toNat) (fun _ => 0#8)) 3).isLt ?_
        refine Plan.load1 (j := ((m267.getD ((((i_266 : Nat) : Int) - 1).toNat) (fun _ => 0#8)) 3).toNat) h307 3 rfl rfl rfl (by first | omega | exact ((m267.getD ((((i_266 : Nat) : Int) - 1).toNat) (fun _ => 0#8)) 3).isLt) FRef04.sc5 ?_
        refine Plan.move_ptr rfl rfl <| Plan.idxArr1 (j := 0) FRef04.arr76 rfl rfl rfl (by omega) <| Plan.load1 (j := 0) h307 0 rfl rfl rfl (by omega) FRef04.sc5 <| Plan.nilCheck rfl rfl <| Plan.fieldAddr 1 FRef04.fld84_1 rfl rfl ?_
        refine Plan.idxArr1 (j := ((m267.getD ((((i_266 : Nat) : Int) - 1).toNat) (fun _ => 0#8)) 0).toNat) FRef04.arr59 rfl rfl rfl ((m267.getD ((((i_266 : Nat) : Int) - 1).toNat) (fun _ => 0#8)) 0).isLt ?_
        refine Plan.load1 (j := ((m267.getD ((((i_266 : Nat) : Int) - 1).toNat) (fun _ => 0#8)) 0).toNat) h307 3 rfl rfl rfl (by first | omega | exact ((m267.getD ((((i_266 : Nat) : Int) - 1).toNat) (fun _ => 0#8)) 0).isLt) FRef04.sc5 ?_
        refine Plan.buildArr (ps := [(4, fun q => VU .u8 ((lit [(x_20 (((m267.getD ((((i_266 : Nat) : Int) - 1).toNat) (fun _ => 0#8)) 1).toNat)), (x_20 (((m267.getD ((((i_266 : Nat) : Int) - 1).toNat) (fun _ => 0#8)) 2).toNat)), (x_20 (((m267.getD ((((i_266 : Nat) : Int) - 1).toNat) (fun _ => 0#8)) 3).toNat)), (x_20 (((m267.getD ((((i_266 : Nat) : Int) - 1).toNat) (fun _ => 0#8)) 0).toNat))]) q))]) FRef04.arr76 FRef04.z76 rfl rfl rfl ?_
        refine Plan.storeA (f' := fun q => VU .u8 ((lit [(x_20 (((m267.getD ((((i_266 : Nat) : Int) - 1).toNat) (fun _ => 0#8)) 1).toNat)), (x_20 (((m267.getD ((((i_266 : Nat) : Int) - 1).toNat) (fun _ => 0#8)) 2).toNat)), (x_20 (((m267.getD ((((i_266 : Nat) : Int) - 1).toNat) (fun _ => 0#8)) 3).toNat)), (x_20 (((m267.getD ((((i_266 : Nat) : Int) - 1).toNat) (fun _ => 0#8)) 0).toNat))]) q)) h307 0 rfl rfl rfl rfl (fun _ _ => rfl) FRef04.sz76 rfl fun w308 h308 => ?_
        simp only [zca, zna, zsz, zss] at h308
        refine Plan.nil (k306 _ _ ?_); clear k306
        refine W.seq_k fun _ k309 => W.regionT [(0, true), (1, true), (2, true), (3, true), (4, true), (5, false)] (by kernel_rfl) ?_
        refine Plan.idxArr1 (j := 0) FRef04.arr76 rfl rfl rfl (by omega) <| Plan.load1 (j := 0) h308 0 rfl rfl rfl (by omega) FRef04.sc5 <| Plan.move_int rfl rfl ?_
        refine Plan.xorU .u8 (X := ((lit [(x_20 (((m267.getD ((((i_266 : Nat) : Int) - 1).toNat) (fun _ => 0#8)) 1).toNat)), (x_20 (((m267.getD ((((i_266 : Nat) : Int) - 1).toNat) (fun _ => 0#8)) 2).toNat)), (x_20 (((m267.getD ((((i_266 : Nat) : Int) - 1).toNat) (fun _ => 0#8)) 3).toNat)), (x_20 (((m267.getD ((((i_266 : Nat) : Int) - 1).toNat) (fun _ => 0#8)) 0).toNat))]) 0)) (Y := power265) rfl rfl rfl ?_
        refine Plan.idxArr1 (j := 0) FRef04.arr76 rfl rfl rfl (by omega) ?_
        refine Plan.storeU (j := 0) (X := (((lit [(x_20 (((m267.getD ((((i_266 : Nat) : Int) - 1).toNat) (fun _ => 0#8)) 1).toNat)), (x_20 (((m267.getD ((((i_266 : Nat) : Int) - 1).toNat) (fun _ => 0#8)) 2).toNat)), (x_20 (((m267.getD ((((i_266 : Nat) : Int) - 1).toNat) (fun _ => 0#8)) 3).toNat)), (x_20 (((m267.getD ((((i_266 : Nat) : Int) - 1).toNat) (fun _ => 0#8)) 0).toNat))]) 0) ^^^ power265)) h308 0 rfl rfl rfl rfl (by omega) FRef04.sz5 rfl fun w310 h310 => ?_
        simp only [zca, zna, zsz, zss] at h310
        refine Plan.nil (k309 _ _ ?_); clear k309
        refine W.regionT [(0, true), (1, false), (2, true)] (by kernel_rfl) ?_
        refine Plan.move_int rfl rfl ?_
        obtain ⟨x_312, hr311, hR⟩ := hR
        refine Plan.call (vs := [VU .u8 power265, VU .u8 (2#8)]) rfl FRef04.call28 rfl (letheref04_Mul_ok  hr311 h310) ?_
        rintro _ w313 ⟨rfl, h313⟩
        refine ⟨_, rfl, .inl ⟨PIn.keep PIn.nil h313, ?_⟩⟩
        refine Plan.assign_int rfl rfl <| Plan.nil ?_
        exact ⟨x_312, (upd (lit [(x_20 (((m267.getD ((((i_266 : Nat) : Int) - 1).toNat) (fun _ => 0#8)) 1).toNat)), (x_20 (((m267.getD ((((i_266 : Nat) : Int) - 1).toNat) (fun _ => 0#8)) 2).toNat)), (x_20 (((m267.getD ((((i_266 : Nat) : Int) - 1).toNat) (fun _ => 0#8)) 3).toNat)), (x_20 (((m267.getD ((((i_266 : Nat) : Int) - 1).toNat) (fun _ => 0#8)) 0).toNat))]) 0 (((lit [(x_20 (((m267.getD ((((i_266 : Nat) : Int) - 1).toNat) (fun _ => 0#8)) 1).toNat)), (x_20 (((m267.getD ((((i_266 : Nat) : Int) - 1).toNat) (fun _ => 0#8)) 2).toNat)), (x_20 (((m267.getD ((((i_266 : Nat) : Int) - 1).toNat) (fun _ => 0#8)) 3).toNat)), (x_20 (((m267.getD ((((i_266 : Nat) : Int) - 1).toNat) (fun _ => 0#8)) 0).toNat))]) 0) ^^^ power265)), hR, (zer (zer (zer (zer (zer zen))))), h313⟩
       ·
        replace hR := ifF hR hc305
        refine W.condF (congrArg Value.bool (decide_eq_false hc305)) ?_
        refine W.seq_k fun _ k314 => W.regionT [(0, true), (1, true), (2, true), (3, true), (4, true), (5, true), (6, true)] (by kernel_rfl) ?_
        refine Plan.move_int rfl rfl ?_
        by_cases hc315 : (key1.length / 4) = 8
        ·
         replace hR := ifT hR hc315
         refine Plan.cmpV (a := ((((key1.length / 4) : Nat) : Int) : Int)) (b := (8 : Int)) (p := (key1.length / 4) = 8) (v := true) rfl rfl rfl rfl icmp_eqN (decide_eq_true hc315) <| Plan.move_bool rfl rfl <| Plan.move_int rfl rfl <| Plan.remN (a := i_266) (b := 8) rfl rfl rfl (by omega) <| Plan.cmpP (a := ((((i_266 % 8) : Nat) : Int) : Int)) (b := (4 : Int)) (p := (i_266 % 8) = 4) rfl rfl rfl rfl icmp_eqN <| Plan.pickTb rfl rfl rfl <| Plan.nil (k314 _ _ ?_); clear k314
         by_cases hc316 : (i_266 % 8) = 4
         ·
          replace hR := ifT hR hc316
          refine W.condT (congrArg Value.bool (decide_eq_true hc316)) ?_
          refine W.regionD FRef04.mixed [(0, true), (1, true), (2, true), (3, true), (4, true), (5, true), (6, true), (7, true), (8, true), (9, true), (10, true), (11, true), (12, true), (13, true), (14, true), (15, true), (16, true), (17, true), (18, true), (19, true), (20, true), (21, true), (22, true), (23, true), (24, true), (25, true), (26, true), (27, true), (28, true), (29, false)] (by kernel_rfl) ?_
          have h317 := h282.drew
          refine Plan.move_ptr rfl rfl <| Plan.idxArr1 (j := 0) FRef04.arr76 rfl rfl rfl (by omega) <| Plan.load1 (j := 0) h317 0 rfl rfl rfl (by omega) FRef04.sc5 <| Plan.nilCheck rfl rfl <| Plan.fieldAddr 1 FRef04.fld84_1 rfl rfl ?_
          refine Plan.idxArr1 (j := ((m267.getD ((((i_266 : Nat) : Int) - 1).toNat) (fun _ => 0#8)) 0).toNat) FRef04.arr59 rfl rfl rfl ((m267.getD ((((i_266 : Nat) : Int) - 1).toNat) (fun _ => 0#8)) 0).isLt ?_
          refine Plan.load1 (j := ((m267.getD ((((i_266 : Nat) : Int) - 1).toNat) (fun _ => 0#8)) 0).toNat) h317 3 rfl rfl rfl (by first | omega | exact ((m267.getD ((((i_266 : Nat) : Int) - 1).toNat) (fun _ => 0#8)) 0).isLt) FRef04.sc5 ?_
          refine Plan.move_ptr rfl rfl <| Plan.idxArr1 (j := 1) FRef04.arr76 rfl rfl rfl (by omega) <| Plan.load1 (j := 1) h317 0 rfl rfl rfl (by omega) FRef04.sc5 <| Plan.nilCheck rfl rfl <| Plan.fieldAddr 1 FRef04.fld84_1 rfl rfl ?_
          refine Plan.idxArr1 (j := ((m267.getD ((((i_266 : Nat) : Int) - 1).toNat) (fun _ => 0#8)) 1).toNat) FRef04.arr59 rfl rfl rfl ((m267.getD ((((i_266 : Nat) : Int) - 1).toNat) (fun _ => 0#8)) 1).isLt ?_
          refine Plan.load1 (j := ((m267.getD ((((i_266 : Nat) : Int) - 1).toNat) (fun _ => 0#8)) 1).toNat) h317 3 rfl rfl rfl (by first | omega | exact ((m267.getD ((((i_266 : Nat) : Int) - 1).toNat) (fun _ => 0#8)) 1).isLt) FRef04.sc5 ?_
          refine Plan.move_ptr rfl rfl <| Plan.idxArr1 (j := 2) FRef04.arr76 rfl rfl rfl (by omega) <| Plan.load1 (j := 2) h317 0 rfl rfl rfl (by omega) FRef04.sc5 <| Plan.nilCheck rfl rfl <| Plan.fieldAddr 1 FRef04.fld84_1 rfl rfl ?_
          refine Plan.idxArr1 (j := ((m267.getD ((((i_266 : Nat) : Int) - 1).toNat) (fun _ => 0#8)) 2).toNat) FRef04.arr59 rfl rfl rfl ((m267.getD ((((i_266 : Nat) : Int) - 1).toNat) (fun _ => 0#8)) 2).isLt ?_
          refine Plan.load1 (j := ((m267.getD ((((i_266 : Nat) : Int) - 1).toNat) (fun _ => 0#8)) 2).toNat) h317 3 rfl rfl rfl (by first | omega | exact ((m267.getD ((((i_266 : Nat) : Int) - 1).toNat) (fun _ => 0#8)) 2).isLt) FRef04.sc5 ?_
          refine Plan.move_ptr rfl rfl <| Plan.idxArr1 (j := 3) FRef04.arr76 rfl rfl rfl (by omega) <| Plan.load1 (j := 3) h317 0 rfl rfl rfl (by omega) FRef04.sc5 <| Plan.nilCheck rfl rfl <| Plan.fieldAddr 1 FRef04.fld84_1 rfl rfl ?_
          refine Plan.idxArr1 (j := ((m267.getD ((((i_266 : Nat) : Int) - 1).toNat) (fun _ => 0#8)) 3).toNat) FRef04.arr59 rfl rfl rfl ((m267.getD ((((i_266 : Nat) : Int) - 1).toNat) (fun _ => 0#8)) 3).isLt ?_
          refine Plan.load1 (j := ((m267.getD ((((i_266 : Nat) : Int) - 1).toNat) (fun _ => 0#8)) 3).toNat) h317 3 rfl rfl rfl (by first | omega | exact ((m267.getD ((((i_266 : Nat) : Int) - 1).toNat) (fun _ => 0#8)) 3).isLt) FRef04.sc5 ?_
          refine Plan.buildArr (ps := [(4, fun q => VU .u8 ((lit [(x_20 (((m267.getD ((((i_266 : Nat) : Int) - 1).toNat) (fun _ => 0#8)) 0).toNat)), (x_20 (((m267.getD ((((i_266 : Nat) : Int) - 1).toNat) (fun _ => 0#8)) 1).toNat)), (x_20 (((m267.getD ((((i_266 : Nat) : Int) - 1).toNat) (fun _ => 0#8)) 2).toNat)), (x_20 (((m267.getD ((((i_266 : Nat) : Int) - 1).toNat) (fun _ => 0#8)) 3).toNat))]) q))]) FRef04.arr76 FRef04.z76 rfl rfl rfl ?_
          refine Plan.storeA (f' := fun q => VU .u8 ((lit [(x_20 (((m267.getD ((((i_266 : Nat) : Int) - 1).toNat) (fun _ => 0#8)) 0).toNat)), (x_20 (((m267.getD ((((i_266 : Nat) : Int) - 1).toNat) (fun _ => 0#8)) 1).toNat)), (x_20 (((m267.getD ((((i_266 : Nat) : Int) - 1).toNat) (fun _ => 0#8)) 2).toNat)), (x_20 (((m267.getD ((((i_266 : Nat) : Int) - 1).toNat) (fun _ => 0#8)) 3).toNat))]) q)) h317 0 rfl rfl rfl rfl (fun _ _ => rfl) FRef04.sz76 rfl fun w318 h318 => ?_
          simp only [zca, zna, zsz, zss] at h318
          refine Plan.nil ?_
          exact ⟨power265, (lit [(x_20 (((m267.getD ((((i_266 : Nat) : Int) - 1).toNat) (fun _ => 0#8)) 0).toNat)), (x_20 (((m267.getD ((((i_266 : Nat) : Int) - 1).toNat) (fun _ => 0#8)) 1).toNat)), (x_20 (((m267.getD ((((i_266 : Nat) : Int) - 1).toNat) (fun _ => 0#8)) 2).toNat)), (x_20 (((m267.getD ((((i_266 : Nat) : Int) - 1).toNat) (fun _ => 0#8)) 3).toNat))]), hR, (zer (zer (zer (zer (zer zen))))), h318⟩
         ·
          replace hR := ifF hR hc316
          refine W.condF (congrArg Value.bool (decide_eq_false hc316)) ?_
          refine W.skip ?_
          exact ⟨power265, (m267.getD ((((i_266 : Nat) : Int) - 1).toNat) (fun _ => 0#8)), hR, (zer (zer (zer (zer (zer zen))))), h282⟩
        ·
         replace hR := ifF hR hc315
         refine Plan.cmpV (a := ((((key1.length / 4) : Nat) : Int) : Int)) (b := (8 : Int)) (p := (key1.length / 4) = 8) (v := false) rfl rfl rfl rfl icmp_eqN (decide_eq_false hc315) <| Plan.move_bool rfl rfl <| Plan.passed rfl <| Plan.passed rfl <| Plan.passed rfl <| Plan.pickFb rfl rfl rfl <| Plan.nil (k314 _ _ ?_); clear k314
         refine W.condF rfl ?_
         refine W.skip ?_
         exact ⟨power265, (m267.getD ((((i_266 : Nat) : Int) - 1).toNat) (fun _ => 0#8)), hR, (zer (zer (zer (zer (zer zen))))), h282⟩
      ·
       rintro ev319 wl319 ⟨y_power300, y_m301, ⟨hy319_0, hy319_1⟩, he319, h319⟩
       subst hy319_0
       subst hy319_1
       obtain ⟨ev319, rfl⟩ := he319.open
       replace hR := hR0302
       refine k283 _ _ ?_; clear k283
       refine W.seq_k fun _ k320 => W.regionT [(0, true), (1, true), (2, true), (3, true), (4, true), (5, true), (6, true), (7, true), (8, true), (9, false), (10, false)] (by kernel_rfl) ?_
       refine Plan.move_ptr rfl rfl <| Plan.nilCheck rfl rfl <| Plan.fieldAddr0 FRef04.fld84_0 rfl rfl <| Plan.load0 h319 2 rfl rfl rfl (by omega) FRef04.sc82 <| Plan.move_int rfl rfl <| Plan.move_int rfl rfl ?_
       obtain ⟨hc321, hR⟩ := hR
       refine Plan.subI (a := ((i_266 : Nat) : Int)) (b := (((key1.length / 4) : Nat) : Int)) rfl rfl rfl (by omega) ?_
       obtain ⟨hc322, hR⟩ := hR
       refine Plan.idxLVS (D := D76) (j := (((i_266 : Nat) : Int) - (((key1.length / 4) : Nat) : Int)).toNat) h319 (LO.lvf D76_flat hm267 1 rfl) FRef04.sl82 rfl rfl (congrArg (Value.int .i64) (Int.toNat_of_nonneg hc322.1).symm) (toNat_lt hc322.1 hc322.2) ?_
       refine Plan.loadLV (D := D76) (X := m267) (j := (((i_266 : Nat) : Int) - (((key1.length / 4) : Nat) : Int)).toNat) (sz := 4) h319 (fun _ => 0#8) (LO.lvf D76_flat hm267 1 rfl) rfl rfl (toNat_lt hc322.1 hc322.2) rfl FRef04.agg76 fun b323 r323 hs323 hr323 => ?_
       refine Plan.alloc h319 rfl FRef04.z76 (PIn.cons 1 hr323 (PIn.cons 2 rfl PIn.nil)) fun b324 w324 hb324 h324 => ?_
       simp only [rngs, Nat.zero_add, Nat.reduceAdd, zca, zna] at h324
       refine Plan.storeA (f' := fun q => VU .u8 ((m267.getD ((((i_266 : Nat) : Int) - (((key1.length / 4) : Nat) : Int)).toNat) (fun _ => 0#8)) q)) h324 0 rfl rfl rfl rfl (fun _ _ => rfl) FRef04.sz76 rfl fun w325 h325 => ?_
       simp only [zca, zna, zsz, zss] at h325
       refine Plan.nil (k320 _ _ ?_); clear k320
       refine W.regionD FRef04.mixed [(0, true), (1, true), (2, true), (3, true), (4, true), (5, true), (6, true), (7, true), (8, true), (9, true), (10, true), (11, true), (12, true), (13, true), (14, true), (15, true), (16, true), (17, true), (18, true), (19, true), (20, true), (21, true), (22, true), (23, true), (24, true), (25, true), (26, false), (27, false), (28, true), (29, true), (30, false)] (by kernel_rfl) ?_
       have h326 := h325.drew
       refine Plan.move_ptr rfl rfl <| Plan.move_ptr rfl rfl <| Plan.nilCheck rfl rfl <| Plan.fieldAddr0 FRef04.fld84_0 rfl rfl <| Plan.load0 h326 3 rfl rfl rfl (by omega) FRef04.sc82 <| Plan.idxArr1 (j := 0) FRef04.arr76 rfl rfl rfl (by omega) <| Plan.load1 (j := 0) h326 0 rfl rfl rfl (by omega) FRef04.sc5 <| Plan.idxArr1 (j := 0) FRef04.arr76 rfl rfl rfl (by omega) ?_
       refine Plan.load1 (j := 0) h326 1 rfl rfl rfl (by omega) FRef04.sc5 ?_
       refine Plan.xorU .u8 (X := ((m267.getD ((((i_266 : Nat) : Int) - (((key1.length / 4) : Nat) : Int)).toNat) (fun _ => 0#8)) 0)) (Y := (m301 0)) rfl rfl rfl ?_
       refine Plan.idxArr1 (j := 1) FRef04.arr76 rfl rfl rfl (by omega) <| Plan.load1 (j := 1) h326 0 rfl rfl rfl (by omega) FRef04.sc5 <| Plan.idxArr1 (j := 1) FRef04.arr76 rfl rfl rfl (by omega) <| Plan.load1 (j := 1) h326 1 rfl rfl rfl (by omega) FRef04.sc5 ?_
       refine Plan.xorU .u8 (X := ((m267.getD ((((i_266 : Nat) : Int) - (((key1.length / 4) : Nat) : Int)).toNat) (fun _ => 0#8)) 1)) (Y := (m301 1)) rfl rfl rfl ?_
       refine Plan.idxArr1 (j := 2) FRef04.arr76 rfl rfl rfl (by omega) <| Plan.load1 (j := 2) h326 0 rfl rfl rfl (by omega) FRef04.sc5 <| Plan.idxArr1 (j := 2) FRef04.arr76 rfl rfl rfl (by omega) <| Plan.load1 (j := 2) h326 1 rfl rfl rfl (by omega) FRef04.sc5 ?_
       refine Plan.xorU .u8 (X := ((m267.getD ((((i_266 : Nat) : Int) - (((key1.length / 4) : Nat) : Int)).toNat) (fun _ => 0#8)) 2)) (Y := (m301 2)) rfl rfl rfl ?_
       refine Plan.idxArr1 (j := 3) FRef04.arr76 rfl rfl rfl (by omega) <| Plan.load1 (j := 3) h326 0 rfl rfl rfl (by omega) FRef04.sc5 <| Plan.idxArr1 (j := 3) FRef04.arr76 rfl rfl rfl (by omega) <| Plan.load1 (j := 3) h326 1 rfl rfl rfl (by omega) FRef04.sc5 ?_
       refine Plan.xorU .u8 (X := ((m267.getD ((((i_266 : Nat) : Int) - (((key1.length / 4) : Nat) : Int)).toNat) (fun _ => 0#8)) 3)) (Y := (m301 3)) rfl rfl rfl ?_
       refine Plan.buildArr (ps := [(4, fun q => VU .u8 ((lit [(((m267.getD ((((i_266 : Nat) : Int) - (((key1.length / 4) : Nat) : Int)).toNat) (fun _ => 0#8)) 0) ^^^ (m301 0)), (((m267.getD ((((i_266 : Nat) : Int) - (((key1.length / 4) : Nat) : Int)).toNat) (fun _ => 0#8)) 1) ^^^ (m301 1)), (((m267.getD ((((i_266 : Nat) : Int) - (((key1.length / 4) : Nat) : Int)).toNat) (fun _ => 0#8)) 2) ^^^ (m301 2)), (((m267.getD ((((i_266 : Nat) : Int) - (((key1.length / 4) : Nat) : Int)).toNat) (fun _ => 0#8)) 3) ^^^ (m301 3))]) q))]) FRef04.arr76 FRef04.z76 rfl rfl rfl ?_
       refine Plan.buildLO (D := D76) (sz := 4) h326 [((), (lit [(((m267.getD ((((i_266 : Nat) : Int) - (((key1.length / 4) : Nat) : Int)).toNat) (fun _ => 0#8)) 0) ^^^ (m301 0)), (((m267.getD ((((i_266 : Nat) : Int) - (((key1.length / 4) : Nat) : Int)).toNat) (fun _ => 0#8)) 1) ^^^ (m301 1)), (((m267.getD ((((i_266 : Nat) : Int) - (((key1.length / 4) : Nat) : Int)).toNat) (fun _ => 0#8)) 2) ^^^ (m301 2)), (((m267.getD ((((i_266 : Nat) : Int) - (((key1.length / 4) : Nat) : Int)).toNat) (fun _ => 0#8)) 3) ^^^ (m301 3))]))] FRef04.slu82 FRef04.sz76 FRef04.zv76 (by decide) (by decide) rfl rfl rfl rfl (fun _ _ => trivial) (EffO.keep (PIn.cons 1 rfl (PIn.cons 0 rfl (PIn.cons 1 rfl (PIn.cons 0 rfl (PIn.cons 1 rfl (PIn.cons 0 rfl (PIn.cons 1 rfl (PIn.cons 0 rfl (PIn.cons 3 rfl PIn.nil)))))))))) fun b328 w328 F328 hb328 ho328 h328 => ?_
       replace ho328 : LO D76 [] (some ⟨b328, 0, none⟩) (some b328) ([(lit [(((m267.getD ((((i_266 : Nat) : Int) - (((key1.length / 4) : Nat) : Int)).toNat) (fun _ => 0#8)) 0) ^^^ (m301 0)), (((m267.getD ((((i_266 : Nat) : Int) - (((key1.length / 4) : Nat) : Int)).toNat) (fun _ => 0#8)) 1) ^^^ (m301 1)), (((m267.getD ((((i_266 : Nat) : Int) - (((key1.length / 4) : Nat) : Int)).toNat) (fun _ => 0#8)) 2) ^^^ (m301 2)), (((m267.getD ((((i_266 : Nat) : Int) - (((key1.length / 4) : Nat) : Int)).toNat) (fun _ => 0#8)) 3) ^^^ (m301 3))])] : List (Nat → BitVec 8)).length 1 F328 ([(lit [(((m267.getD ((((i_266 : Nat) : Int) - (((key1.length / 4) : Nat) : Int)).toNat) (fun _ => 0#8)) 0) ^^^ (m301 0)), (((m267.getD ((((i_266 : Nat) : Int) - (((key1.length / 4) : Nat) : Int)).toNat) (fun _ => 0#8)) 1) ^^^ (m301 1)), (((m267.getD ((((i_266 : Nat) : Int) - (((key1.length / 4) : Nat) : Int)).toNat) (fun _ => 0#8)) 2) ^^^ (m301 2)), (((m267.getD ((((i_266 : Nat) : Int) - (((key1.length / 4) : Nat) : Int)).toNat) (fun _ => 0#8)) 3) ^^^ (m301 3))])] : List (Nat → BitVec 8)) := ho328.re (fun _ _ h => h)
       obtain ⟨hc330, hR⟩ := hR
       refine Plan.appendLO (D := D76) (X := m267) (Y := ([(lit [(((m267.getD ((((i_266 : Nat) : Int) - (((key1.length / 4) : Nat) : Int)).toNat) (fun _ => 0#8)) 0) ^^^ (m301 0)), (((m267.getD ((((i_266 : Nat) : Int) - (((key1.length / 4) : Nat) : Int)).toNat) (fun _ => 0#8)) 1) ^^^ (m301 1)), (((m267.getD ((((i_266 : Nat) : Int) - (((key1.length / 4) : Nat) : Int)).toNat) (fun _ => 0#8)) 2) ^^^ (m301 2)), (((m267.getD ((((i_266 : Nat) : Int) - (((key1.length / 4) : Nat) : Int)).toNat) (fun _ => 0#8)) 3) ^^^ (m301 3))])] : List (Nat → BitVec 8))) (sz := 4) h328 () (fun _ => 0#8) 3 hm267 rfl FRef04.el82 rfl FRef04.slu82 rfl rfl rfl rfl (LO.lvf D76_flat ho328 0 rfl) (fun _ _ h => h) hc330.1 hc330.2 (fun _ => EffO.mix _ (Filt.keep rfl (Filt.keep rfl (Filt.keep rfl (Filt.keep rfl (Filt.keep rfl (Filt.keep rfl (Filt.keep rfl (Filt.keep rfl (Filt.drop rfl Filt.nil))))))))) (PIn.cons 2 rfl (PIn.cons 1 rfl (PIn.cons 2 rfl (PIn.cons 1 rfl (PIn.cons 2 rfl (PIn.cons 1 rfl (PIn.cons 2 rfl (PIn.cons 1 rfl PIn.nil))))))))) fun a329 pb329 cap329 F329 w329 ho329 h329 => ?_
       simp only [zca, zna, zsz, zss] at h329
       replace ho329 : LO D76 [] a329 pb329 (m267 ++ ([(lit [(((m267.getD ((((i_266 : Nat) : Int) - (((key1.length / 4) : Nat) : Int)).toNat) (fun _ => 0#8)) 0) ^^^ (m301 0)), (((m267.getD ((((i_266 : Nat) : Int) - (((key1.length / 4) : Nat) : Int)).toNat) (fun _ => 0#8)) 1) ^^^ (m301 1)), (((m267.getD ((((i_266 : Nat) : Int) - (((key1.length / 4) : Nat) : Int)).toNat) (fun _ => 0#8)) 2) ^^^ (m301 2)), (((m267.getD ((((i_266 : Nat) : Int) - (((key1.length / 4) : Nat) : Int)).toNat) (fun _ => 0#8)) 3) ^^^ (m301 3))])] : List (Nat → BitVec 8))).length cap329 F329 (m267 ++ ([(lit [(((m267.getD ((((i_266 : Nat) : Int) - (((key1.length / 4) : Nat) : Int)).toNat) (fun _ => 0#8)) 0) ^^^ (m301 0)), (((m267.getD ((((i_266 : Nat) : Int) - (((key1.length / 4) : Nat) : Int)).toNat) (fun _ => 0#8)) 1) ^^^ (m301 1)), (((m267.getD ((((i_266 : Nat) : Int) - (((key1.length / 4) : Nat) : Int)).toNat) (fun _ => 0#8)) 2) ^^^ (m301 2)), (((m267.getD ((((i_266 : Nat) : Int) - (((key1.length / 4) : Nat) : Int)).toNat) (fun _ => 0#8)) 3) ^^^ (m301 3))])] : List (Nat → BitVec 8))) := ho329.re (fun _ _ h => h)
       refine Plan.nilCheck rfl rfl <| Plan.fieldAddr0 FRef04.fld84_0 rfl rfl ?_
       refine Plan.storeC h329 4 rfl rfl rfl rfl rfl FRef04.sz82 rfl fun w331 h331 => ?_
       simp only [zca, zna, zsz, zss] at h331
       refine Plan.nil ?_
       refine blockR_norm ?_
       refine k276 _ _ ?_; clear k276
       refine W.regionT [(0, true), (1, true), (2, true)] (by kernel_rfl) ?_
       refine Plan.move_int rfl rfl ?_
       obtain ⟨hc332, hR⟩ := hR
       refine Plan.addN (a := i_266) (b := 1) rfl rfl rfl (by omega) <| Plan.assign_int rfl rfl <| Plan.nil ?_
       have h333 := St.pickT (C := [_, _, _, _, _, _, _]) h331 [3, 4, 5, 6] (by decide)
       simp only [pick, zfc, zfn, zgz, zgs, zca, zna] at h333
       exact iterR_norm ⟨_, hR, (m267 ++ ([(lit [(((m267.getD ((((i_266 : Nat) : Int) - (((key1.length / 4) : Nat) : Int)).toNat) (fun _ => 0#8)) 0) ^^^ (m301 0)), (((m267.getD ((((i_266 : Nat) : Int) - (((key1.length / 4) : Nat) : Int)).toNat) (fun _ => 0#8)) 1) ^^^ (m301 1)), (((m267.getD ((((i_266 : Nat) : Int) - (((key1.length / 4) : Nat) : Int)).toNat) (fun _ => 0#8)) 2) ^^^ (m301 2)), (((m267.getD ((((i_266 : Nat) : Int) - (((key1.length / 4) : Nat) : Int)).toNat) (fun _ => 0#8)) 3) ^^^ (m301 3))])] : List (Nat → BitVec 8))).length, a329, pb329, cap329, F329, (zer (zer (zer (zer zen)))), h333, ho329⟩
     ·
      replace hR := ifF hR hc275
      refine W.condF (congrArg Value.bool (decide_eq_false hc275)) ?_
      refine W.exit (thenR_exit (iterR_exit (blockR_here ?_)))
      exact ⟨m267, (hx269 _ hR).symm, m267.length, am267, pm267, cm267, Fm267, (zer zen), h270, hm267⟩
    ·
     rintro ev334 wl334 ⟨y_m268, hy334, n_m268, am268, pm268, cm268, Fm268, he334, h334, hm268⟩
     obtain ⟨ev334, rfl⟩ := he334.open
     subst hy334
     replace hR := hR0269
     obtain rfl : List.length (α := (Nat → BitVec 8)) m268 = n_m268 := hm268.hl
     refine k136 _ _ ?_; clear k136
     refine W.seq_k fun _ k335 => W.regionT [(0, true), (1, true)] (by kernel_rfl) ?_
     refine Plan.move_ptr rfl rfl <| Plan.assign_ptr rfl rfl <| Plan.nil (k335 _ _ ?_); clear k335
     refine W.ret (finR_ret ?_)
     have h336 := St.pickT (C := [_, _, _, _]) h334 [1, 0, 2, 3] (by decide)
     simp only [pick, zfc, zfn, zgz, zgs, zca, zna] at h336
     subst r
     refine RetOk.mk (.tmp_ptr rfl .nil) ?_
     exact ⟨b22, am268, pm268, m268.length, cm268, Fm268, rfl, h336, hm268⟩
theorem letheref04_Inv_ok {B : Nat} {w0 w : World} {L : List Rg} {a1 : BitVec 8} {r : (BitVec 8)} (hR : letheref04_Inv a1 r) (HST : St B w0 (L) w) :
  Calls Try.prog 40 #[VU .u8 a1] w fun e w' => e = .returned (VU .u8 r) ∧ St B w0 (L) w' := by
 refine W.enter 17 Try.func40 rfl rfl rfl ?_
 unfold letheref04_Inv at hR
 refine W.seq_k fun _ k2 => W.regionT [(0, true)] (by kernel_rfl) ?_
 refine Plan.assign_int rfl rfl <| Plan.nil (k2 _ _ ?_); clear k2
 refine W.seq_k fun _ k3 => W.seq_k fun _ k4 => ?_
 refine W.regionT [(0, true)] (by kernel_rfl) ?_
 refine Plan.assign_int rfl rfl <| Plan.nil (k4 _ _ ?_); clear k4
 obtain ⟨x28, hI28, hR028⟩ := hR
 refine W.cutN (fun e w => x28 = some () ∧ EnvHas e [] ∧ St B w0 (L) w) ?_ ?_
 ·
  refine W.block ?_
  refine W.iter hI28 (fun (s28 : Nat) e w => EnvHas e [(0, VU .u8 a1), (3, VN s28)] ∧ St B w0 (L) w) ⟨(zer (zer zen)), HST⟩ ?_
  rintro b27 o28 hR hx28 ev29 wl29 ⟨he29, h29⟩
  obtain ⟨ev29, rfl⟩ := he29.open
  unfold letheref04_Inv_l0 at hR
  refine W.seq_k fun _ k30 => W.seq_k fun _ k31 => ?_
  refine W.regionT [(0, true), (1, true)] (by kernel_rfl) ?_
  refine Plan.move_int rfl rfl <| Plan.cmpP (a := (((b27 : Nat) : Int) : Int)) (b := (256 : Int)) (p := b27 < 256) rfl rfl rfl rfl icmp_ltN <| Plan.nil (k31 _ _ ?_); clear k31
  by_cases hc32 : b27 < 256
  ·
   replace hR := ifT hR hc32
   refine W.condT (congrArg Value.bool (decide_eq_true hc32)) ?_
   refine W.skip ?_
   refine k30 _ _ ?_; clear k30
   refine W.seq_k fun _ k33 => ?_
   refine W.block ?_
   refine W.seq_k fun _ k34 => W.regionT [(0, true), (1, true), (2, true), (3, false), (4, true)] (by kernel_rfl) ?_
   refine Plan.move_int rfl rfl <| Plan.move_int rfl rfl <| Plan.convNU .u8 (a := b27) FRef04.u5 FRef04.some3 rfl rfl ?_
   obtain ⟨x_36, hr35, hR⟩ := hR
   refine Plan.call (vs := [VU .u8 a1, VU .u8 (BitVec.ofNat 8 b27)]) rfl FRef04.call28 rfl (letheref04_Mul_ok  hr35 h29) ?_
   rintro _ w37 ⟨rfl, h37⟩
   refine ⟨_, rfl, .inl ⟨PIn.keep PIn.nil h37, ?_⟩⟩
   refine Plan.assign_int rfl rfl <| Plan.nil (k34 _ _ ?_); clear k34
   refine W.seq_k fun _ k38 => W.regionT [(0, true), (1, true)] (by kernel_rfl) ?_
   refine Plan.move_int rfl rfl <| Plan.cmpP (a := (x_36.toNat : Int)) (b := ((1#8).toNat : Int)) (p := x_36 = 1#8) rfl rfl rfl rfl icmp_eqU <| Plan.nil (k38 _ _ ?_); clear k38
   by_cases hc39 : x_36 = 1#8
   ·
    replace hR := ifT hR hc39
    refine W.condT (congrArg Value.bool (decide_eq_true hc39)) ?_
    refine W.seq_k fun _ k40 => W.regionT [(0, true), (1, true), (2, true)] (by kernel_rfl) ?_
    refine Plan.move_int rfl rfl <| Plan.convNU .u8 (a := b27) FRef04.u5 FRef04.some3 rfl rfl <| Plan.assign_int rfl rfl <| Plan.nil (k40 _ _ ?_); clear k40
    refine W.ret (blockR_ret (thenR_ret (iterR_ret (blockR_ret (thenR_ret (thenR_ret (finR_ret ?_)))))))
    replace hR := hR.2
    subst r
    refine RetOk.mk (.tmp_int rfl .nil) ?_
    exact ⟨rfl, h37⟩
   ·
    replace hR := ifF hR hc39
    refine W.condF (congrArg Value.bool (decide_eq_false hc39)) ?_
    refine W.skip ?_
    refine blockR_norm ?_
    refine k33 _ _ ?_; clear k33
    refine W.regionT [(0, true), (1, true), (2, true)] (by kernel_rfl) ?_
    refine Plan.move_int rfl rfl <| Plan.addN (a := b27) (b := 1) rfl rfl rfl (by omega) <| Plan.assign_int rfl rfl <| Plan.nil ?_
    exact iterR_norm ⟨_, hR, (zer (zer zen)), h37⟩
  ·
   replace hR := ifF hR hc32
   refine W.condF (congrArg Value.bool (decide_eq_false hc32)) ?_
   refine W.exit (thenR_exit (iterR_exit (blockR_here ?_)))
   exact ⟨(hx28 _ hR).symm, zen, h29⟩
 ·
  rintro ev41 wl41 ⟨hy41, he41, h41⟩
  obtain ⟨ev41, rfl⟩ := he41.open
  replace hR := hR028  hy41
  refine k3 _ _ ?_; clear k3
  refine W.seq_k fun _ k42 => W.regionT [(0, true)] (by kernel_rfl) ?_
  refine Plan.assign_int rfl rfl <| Plan.nil (k42 _ _ ?_); clear k42
  refine W.ret (finR_ret ?_)
  subst r
  refine RetOk.mk (.tmp_int rfl .nil) ?_
  exact ⟨rfl, h41⟩
theorem letheref04_Box_ok {B : Nat} {w0 w : World} {L : List Rg} {a1 : BitVec 8} {r : (BitVec 8)} (hR : letheref04_Box a1 r) (HST : St B w0 (L) w) :
  Calls Try.prog 29 #[VU .u8 a1] w fun e w' => e = .returned (VU .u8 r) ∧ St B w0 (L) w' := by
 refine W.enter 40 Try.func29 rfl rfl rfl ?_
 unfold letheref04_Box at hR
 refine W.seq_k fun _ k2 => W.regionT [(0, true)] (by kernel_rfl) ?_
 refine Plan.assign_int rfl rfl <| Plan.nil (k2 _ _ ?_); clear k2
 refine W.seq_k fun _ k3 => W.regionT [(0, true), (1, false), (2, true)] (by kernel_rfl) ?_
 refine Plan.move_int rfl rfl ?_
 obtain ⟨x_5, hr4, hR⟩ := hR
 refine Plan.call (vs := [VU .u8 a1]) rfl FRef04.call40 rfl (letheref04_Inv_ok  hr4 HST) ?_
 rintro _ w6 ⟨rfl, h6⟩
 refine ⟨_, rfl, .inl ⟨PIn.keep PIn.nil h6, ?_⟩⟩
 refine Plan.assign_int rfl rfl <| Plan.nil (k3 _ _ ?_); clear k3
 refine W.seq_k fun _ k7 => W.regionT [(0, true)] (by kernel_rfl) ?_
 refine Plan.assign_int rfl rfl <| Plan.nil (k7 _ _ ?_); clear k7
 refine W.seq_k fun _ k8 => W.seq_k fun _ k9 => ?_
 refine W.regionT [(0, true)] (by kernel_rfl) ?_
 refine Plan.assign_int rfl rfl <| Plan.nil (k9 _ _ ?_); clear k9
 obtain ⟨out97, hI98, hR098⟩ := hR
 refine W.cutN (fun e w => ∃ y_out97 : BitVec 8, out97 = y_out97 ∧ EnvHas e [(4, VU .u8 y_out97)] ∧ St B w0 (L) w) ?_ ?_
 ·
  refine W.block ?_
  refine W.iter hI98 (fun (s98 : ((BitVec 8) × Nat)) e w => EnvHas e [(3, VU .u8 x_5), (4, VU .u8 s98.1), (5, VN s98.2)] ∧ St B w0 (L) w) ⟨(zer (zer (zer zen))), h6⟩ ?_
  rintro ⟨out95, i_96⟩ o98 hR hx98 ev99 wl99 ⟨he99, h99⟩
  obtain ⟨ev99, rfl⟩ := he99.open
  unfold letheref04_Box_l0 at hR
  refine W.seq_k fun _ k100 => W.seq_k fun _ k101 => ?_
  refine W.regionT [(0, true), (1, true)] (by kernel_rfl) ?_
  refine Plan.move_int rfl rfl <| Plan.cmpP (a := (((i_96 : Nat) : Int) : Int)) (b := (8 : Int)) (p := i_96 < 8) rfl rfl rfl rfl icmp_ltN <| Plan.nil (k101 _ _ ?_); clear k101
  by_cases hc102 : i_96 < 8
  ·
   replace hR := ifT hR hc102
   refine W.condT (congrArg Value.bool (decide_eq_true hc102)) ?_
   refine W.skip ?_
   refine k100 _ _ ?_; clear k100
   refine W.seq_k fun _ k103 => ?_
   refine W.block ?_
   refine W.seq_k fun _ k104 => W.regionT [(0, true), (1, true), (2, true), (3, true)] (by kernel_rfl) ?_
   refine Plan.move_int rfl rfl <| Plan.shrN (a := 99) (c := i_96) rfl rfl rfl (by omega) ?_
   have hsh105 := Nat.div_le_self 99 (2 ^ i_96)
   refine Plan.andN (a := (99 / 2 ^ i_96)) (b := 1) rfl rfl rfl (by omega) <| Plan.assign_int rfl rfl <| Plan.nil (k104 _ _ ?_); clear k104
   refine W.seq_k fun _ k106 => W.seq_k fun _ k107 => ?_
   refine W.regionT [(0, true), (1, true)] (by kernel_rfl) ?_
   refine Plan.buildArr (ps := [(5, fun q => .int .i64 ((fun q => ([0, 4, 5, 6, 7] : List Int).getD q 0) q))]) FRef04.arr78 FRef04.z78 rfl rfl (by kernel_rfl) ?_
   refine Plan.move_int rfl rfl <| Plan.nil (k107 _ _ ?_); clear k107
   obtain ⟨bit128, hI129, hR0129⟩ := hR
   refine W.cutN (fun e w => ∃ y_bit128 : Nat, bit128 = y_bit128 ∧ EnvHas e [(3, VU .u8 x_5), (4, VU .u8 out95), (5, VN i_96), (6, VN y_bit128)] ∧ St B w0 (L) w) ?_ ?_
   ·
    refine W.block ?_
    refine W.iter hI129 (fun (s129 : (Nat × Nat)) e w => EnvHas e [(3, VU .u8 x_5), (4, VU .u8 out95), (5, VN i_96), (6, VN s129.1), (18, AG [(5, fun q => .int .i64 ((fun q => ([0, 4, 5, 6, 7] : List Int).getD q 0) q))]), (19, VN s129.2)] ∧ St B w0 (L) w) ⟨(zer (zer (zer (zer (zer (zer zen)))))), h99⟩ ?_
    rintro ⟨bit126, t127⟩ o129 hR hx129 ev130 wl130 ⟨he130, h130⟩
    obtain ⟨ev130, rfl⟩ := he130.open
    unfold letheref04_Box_l1 at hR
    refine W.seq_k fun _ k131 => W.regionT [(0, true)] (by kernel_rfl) ?_
    refine Plan.cmpP (a := (((t127 : Nat) : Int) : Int)) (b := (5 : Int)) (p := t127 < 5) rfl rfl rfl rfl icmp_ltN <| Plan.nil (k131 _ _ ?_); clear k131
    refine W.seq_k fun _ k132 => ?_
    by_cases hc133 : t127 < 5
    ·
     replace hR := ifT hR hc133
     refine W.condT (congrArg Value.bool (decide_eq_true hc133)) ?_
     refine W.skip ?_
     refine k132 _ _ ?_; clear k132
     refine W.seq_k fun _ k134 => ?_
     refine W.block ?_
     refine W.seq_k fun _ k135 => W.regionT [(0, true), (1, true)] (by kernel_rfl) ?_
     refine Plan.indexA (j := t127) FRef04.isarr78 FRef04.sz3 FRef04.sc3 rfl rfl rfl (by omega) (by decide) <| Plan.assign_int rfl rfl <| Plan.nil (k135 _ _ ?_); clear k135
     refine W.regionT [(0, true), (1, true), (2, true), (3, true), (4, true), (5, true), (6, true), (7, true), (8, true), (9, true), (10, true)] (by kernel_rfl) ?_
     refine Plan.move_int rfl rfl <| Plan.move_int rfl rfl <| Plan.move_int rfl rfl <| Plan.move_int rfl rfl ?_
     obtain ⟨hc136, hR⟩ := hR
     refine Plan.addI (a := ((i_96 : Nat) : Int)) (b := ((fun q => ([0, 4, 5, 6, 7] : List Int).getD q 0) t127)) rfl rfl rfl (by omega) ?_
     have hb137 := tmod_bd (((i_96 : Nat) : Int) + ((fun q => ([0, 4, 5, 6, 7] : List Int).getD q 0) t127)) (c := 8) (by decide)
     refine Plan.remI (a := (((i_96 : Nat) : Int) + ((fun q => ([0, 4, 5, 6, 7] : List Int).getD q 0) t127))) (b := 8) rfl rfl rfl (by omega) ?_
     obtain ⟨hc138, hR⟩ := hR
     refine Plan.shrU .u8 (X := x_5) (c := ((((i_96 : Nat) : Int) + ((fun q => ([0, 4, 5, 6, 7] : List Int).getD q 0) t127)).tmod 8).toNat) rfl rfl (congrArg (Value.int .i64) (Int.toNat_of_nonneg hc138).symm) ?_
     refine Plan.andU .u8 (X := (x_5 >>> (((((i_96 : Nat) : Int) + ((fun q => ([0, 4, 5, 6, 7] : List Int).getD q 0) t127)).tmod 8).toNat))) (Y := 1#8) rfl rfl rfl ?_
     refine Plan.convN (a := ((x_5 >>> (((((i_96 : Nat) : Int) + ((fun q => ([0, 4, 5, 6, 7] : List Int).getD q 0) t127)).tmod 8).toNat)) &&& (1#8)).toNat) FRef04.u3 FRef04.some5 rfl rfl (Nat.lt_of_lt_of_le ((x_5 >>> (((((i_96 : Nat) : Int) + ((fun q => ([0, 4, 5, 6, 7] : List Int).getD q 0) t127)).tmod 8).toNat)) &&& (1#8)).isLt (by decide)) ?_
     obtain ⟨hc139, hR⟩ := hR
     refine Plan.xorN (a := bit126) (b := ((x_5 >>> (((((i_96 : Nat) : Int) + ((fun q => ([0, 4, 5, 6, 7] : List Int).getD q 0) t127)).tmod 8).toNat)) &&& (1#8)).toNat) rfl rfl rfl (by omega) ?_
     refine Plan.assign_int rfl rfl <| Plan.nil ?_
     refine blockR_norm ?_
     refine k134 _ _ ?_; clear k134
     refine W.regionT [(0, true), (1, true)] (by kernel_rfl) ?_
     refine Plan.addN (a := t127) (b := 1) rfl rfl rfl (by omega) <| Plan.move_int rfl rfl <| Plan.nil ?_
     exact iterR_norm ⟨_, hR, (zer (zer (zer (zer (zer (zer zen)))))), h130⟩
    ·
     replace hR := ifF hR hc133
     refine W.condF (congrArg Value.bool (decide_eq_false hc133)) ?_
     refine W.exit (thenR_exit (iterR_exit (blockR_here ?_)))
     exact ⟨bit126, (hx129 _ hR).symm, (zer (zer (zer (zer zen)))), h130⟩
   ·
    rintro ev140 wl140 ⟨y_bit128, hy140, he140, h140⟩
    obtain ⟨ev140, rfl⟩ := he140.open
    subst hy140
    replace hR := hR0129
    refine k106 _ _ ?_; clear k106
    refine W.regionT [(0, true), (1, true), (2, true), (3, true), (4, true), (5, true), (6, true)] (by kernel_rfl) ?_
    refine Plan.move_int rfl rfl <| Plan.move_int rfl rfl <| Plan.move_int rfl rfl ?_
    obtain ⟨hc141, hR⟩ := hR
    refine Plan.shlN (a := bit128) (c := i_96) rfl rfl rfl hc141.1 hc141.2 <| Plan.convNU .u8 (a := (bit128 * 2 ^ i_96)) FRef04.u5 FRef04.some3 rfl rfl <| Plan.orU .u8 (X := out95) (Y := (BitVec.ofNat 8 (bit128 * 2 ^ i_96))) rfl rfl rfl <| Plan.assign_int rfl rfl <| Plan.nil ?_
    refine blockR_norm ?_
    refine k103 _ _ ?_; clear k103
    refine W.regionT [(0, true), (1, true), (2, true)] (by kernel_rfl) ?_
    refine Plan.move_int rfl rfl <| Plan.addN (a := i_96) (b := 1) rfl rfl rfl (by omega) <| Plan.assign_int rfl rfl <| Plan.nil ?_
    exact iterR_norm ⟨_, hR, (zer (zer (zer zen))), h140⟩
  ·
   replace hR := ifF hR hc102
   refine W.condF (congrArg Value.bool (decide_eq_false hc102)) ?_
   refine W.exit (thenR_exit (iterR_exit (blockR_here ?_)))
   exact ⟨out95, (hx98 _ hR).symm, (zer zen), h99⟩
 ·
  rintro ev142 wl142 ⟨y_out97, hy142, he142, h142⟩
  obtain ⟨ev142, rfl⟩ := he142.open
  subst hy142
  replace hR := hR098
  refine k8 _ _ ?_; clear k8
  refine W.seq_k fun _ k143 => W.regionT [(0, true), (1, true)] (by kernel_rfl) ?_
  refine Plan.move_int rfl rfl <| Plan.assign_int rfl rfl <| Plan.nil (k143 _ _ ?_); clear k143
  refine W.ret (finR_ret ?_)
  subst r
  refine RetOk.mk (.tmp_int rfl .nil) ?_
  exact ⟨rfl, h142⟩
theorem letheref04_Unbox_ok {B : Nat} {w0 w : World} {L : List Rg} {a1 : BitVec 8} {r : (BitVec 8)} (hR : letheref04_Unbox a1 r) (HST : St B w0 (L) w) :
  Calls Try.prog 30 #[VU .u8 a1] w fun e w' => e = .returned (VU .u8 r) ∧ St B w0 (L) w' := by
 refine W.enter 17 Try.func30 rfl rfl rfl ?_
 unfold letheref04_Unbox at hR
 refine W.seq_k fun _ k2 => W.regionT [(0, true)] (by kernel_rfl) ?_
 refine Plan.assign_int rfl rfl <| Plan.nil (k2 _ _ ?_); clear k2
 refine W.seq_k fun _ k3 => W.regionT [(0, false), (1, false), (2, false)] (by kernel_rfl) ?_
 obtain ⟨x_5, hr4, hR⟩ := hR
 refine Plan.call (vs := []) rfl FRef04.call41 rfl (letheref04_box_ok  hr4 HST) ?_
 rintro _ w6 ⟨rfl, h6⟩
 refine ⟨_, rfl, .inl ⟨PIn.keep PIn.nil h6, ?_⟩⟩
 refine Plan.alloc h6 rfl FRef04.z59 PIn.nil fun b7 w7 hb7 h7 => ?_
 simp only [rngs, Nat.zero_add, Nat.reduceAdd, zca, zna] at h7
 refine Plan.storeA (f' := fun q => VU .u8 (x_5 q)) h7 0 rfl rfl rfl rfl (fun _ _ => rfl) FRef04.sz59 rfl fun w8 h8 => ?_
 simp only [zca, zna, zsz, zss] at h8
 refine Plan.nil (k3 _ _ ?_); clear k3
 refine W.seq_k fun _ k9 => W.seq_k fun _ k10 => ?_
 refine W.regionT [(0, true)] (by kernel_rfl) ?_
 refine Plan.assign_int rfl rfl <| Plan.nil (k10 _ _ ?_); clear k10
 obtain ⟨x26, hI26, hR026⟩ := hR
 refine W.cutN (fun e w => x26 = some () ∧ EnvHas e [] ∧ St B w0 (L) w) ?_ ?_
 ·
  refine W.block ?_
  refine W.iter hI26 (fun (s26 : Nat) e w => EnvHas e [(0, VU .u8 a1), (3, .pointer (some ⟨b7, 0, none⟩)), (4, VN s26)] ∧ St B w0 (⟨some b7, 0, 256, fun q => VU .u8 (x_5 q), true⟩ :: L) w) ⟨(zer (zer (zer zen))), h8⟩ ?_
  rintro i_25 o26 hR hx26 ev27 wl27 ⟨he27, h27⟩
  obtain ⟨ev27, rfl⟩ := he27.open
  unfold letheref04_Unbox_l0 at hR
  refine W.seq_k fun _ k28 => W.seq_k fun _ k29 => ?_
  refine W.regionT [(0, true), (1, true)] (by kernel_rfl) ?_
  refine Plan.move_int rfl rfl <| Plan.cmpP (a := (((i_25 : Nat) : Int) : Int)) (b := (256 : Int)) (p := i_25 < 256) rfl rfl rfl rfl icmp_ltN <| Plan.nil (k29 _ _ ?_); clear k29
  by_cases hc30 : i_25 < 256
  ·
   replace hR := ifT hR hc30
   refine W.condT (congrArg Value.bool (decide_eq_true hc30)) ?_
   refine W.skip ?_
   refine k28 _ _ ?_; clear k28
   refine W.seq_k fun _ k31 => ?_
   refine W.block ?_
   refine W.seq_k fun _ k32 => W.regionT [(0, true), (1, true), (2, true), (3, true), (4, true)] (by kernel_rfl) ?_
   refine Plan.move_int rfl rfl <| Plan.idxArr1 (j := i_25) FRef04.arr59 rfl rfl rfl (by omega) <| Plan.load1 (j := i_25) h27 0 rfl rfl rfl (by omega) FRef04.sc5 <| Plan.move_int rfl rfl <| Plan.cmpP (a := ((x_5 i_25).toNat : Int)) (b := (a1.toNat : Int)) (p := (x_5 i_25) = a1) rfl rfl rfl rfl icmp_eqU <| Plan.nil (k32 _ _ ?_); clear k32
   by_cases hc33 : (x_5 i_25) = a1
   ·
    replace hR := ifT hR hc33
    refine W.condT (congrArg Value.bool (decide_eq_true hc33)) ?_
    refine W.seq_k fun _ k34 => W.regionT [(0, true), (1, true), (2, true)] (by kernel_rfl) ?_
    refine Plan.move_int rfl rfl <| Plan.convNU .u8 (a := i_25) FRef04.u5 FRef04.some3 rfl rfl <| Plan.assign_int rfl rfl <| Plan.nil (k34 _ _ ?_); clear k34
    refine W.ret (blockR_ret (thenR_ret (iterR_ret (blockR_ret (thenR_ret (thenR_ret (finR_ret ?_)))))))
    have h35 := St.pickT (C := [_]) h27 [] (by decide)
    simp only [pick, zfc, zfn, zgz, zgs, zca, zna] at h35
    replace hR := hR.2
    subst r
    refine RetOk.mk (.tmp_int rfl .nil) ?_
    exact ⟨rfl, h35⟩
   ·
    replace hR := ifF hR hc33
    refine W.condF (congrArg Value.bool (decide_eq_false hc33)) ?_
    refine W.skip ?_
    refine blockR_norm ?_
    refine k31 _ _ ?_; clear k31
    refine W.regionT [(0, true), (1, true), (2, true)] (by kernel_rfl) ?_
    refine Plan.move_int rfl rfl <| Plan.addN (a := i_25) (b := 1) rfl rfl rfl (by omega) <| Plan.assign_int rfl rfl <| Plan.nil ?_
    exact iterR_norm ⟨_, hR, (zer (zer (zer zen))), h27⟩
  ·
   replace hR := ifF hR hc30
   refine W.condF (congrArg Value.bool (decide_eq_false hc30)) ?_
   refine W.exit (thenR_exit (iterR_exit (blockR_here ?_)))
   have h36 := St.pickT (C := [_]) h27 [] (by decide)
   simp only [pick, zfc, zfn, zgz, zgs, zca, zna] at h36
   exact ⟨(hx26 _ hR).symm, zen, h36⟩
 ·
  rintro ev37 wl37 ⟨hy37, he37, h37⟩
  obtain ⟨ev37, rfl⟩ := he37.open
  replace hR := hR026  hy37
  refine k9 _ _ ?_; clear k9
  refine W.seq_k fun _ k38 => W.regionT [(0, true)] (by kernel_rfl) ?_
  refine Plan.assign_int rfl rfl <| Plan.nil (k38 _ _ ?_); clear k38
  refine W.ret (finR_ret ?_)
  subst r
  refine RetOk.mk (.tmp_int rfl .nil) ?_
  exact ⟨rfl, h37⟩
theorem letheref04_Next_ok {B : Nat} {w0 w : World} {L : List Rg} {b1 : Nat → BitVec 8} {n_2 : BitVec 64} {r : (Nat → BitVec 8)} (hR : letheref04_Next b1 n_2 r) (HST : St B w0 (L) w) :
  Calls Try.prog 31 #[AG [(16, fun q => VU .u8 (b1 q))], VU .u64 n_2] w fun e w' => e = .returned (AG [(16, fun q => VU .u8 (r q))]) ∧ St B w0 (L) w' := by
 refine W.enter 32 Try.func31 rfl rfl rfl ?_
 unfold letheref04_Next at hR
 refine W.seq_k fun _ k3 => W.regionT [(0, false), (1, false)] (by kernel_rfl) ?_
 refine Plan.boxA HST rfl rfl PIn.nil fun b4 w4 hb4 h4 => ?_
 simp only [rngs, Nat.zero_add, Nat.reduceAdd, zca, zna] at h4
 refine Plan.alloc h4 rfl FRef04.z27 PIn.nil fun b5 w5 hb5 h5 => ?_
 simp only [rngs, Nat.zero_add, Nat.reduceAdd, zca, zna] at h5
 refine Plan.nil (k3 _ _ ?_); clear k3
 refine W.seq_k fun _ k6 => W.regionT [(0, true)] (by kernel_rfl) ?_
 refine Plan.assign_int rfl rfl <| Plan.nil (k6 _ _ ?_); clear k6
 refine W.seq_k fun _ k7 => W.seq_k fun _ k8 => ?_
 refine W.regionT [(0, true)] (by kernel_rfl) ?_
 refine Plan.assign_int rfl rfl <| Plan.nil (k8 _ _ ?_); clear k8
 obtain ⟨m62, hI63, hR063⟩ := hR
 refine W.cutN (fun e w => ∃ y_m62 : Nat → BitVec 8, m62 = y_m62 ∧ EnvHas e [(2, .pointer (some ⟨b4, 0, none⟩)), (4, .pointer (some ⟨b5, 0, none⟩))] ∧ St B w0 (⟨some b5, 0, 16, fun q => VU .u8 ((fun _ => 0#8) q), true⟩ :: ⟨some b4, 0, 16, fun q => VU .u8 (y_m62 q), true⟩ :: L) w) ?_ ?_
 ·
  refine W.block ?_
  refine W.iter hI63 (fun (s63 : ((BitVec 64) × Nat × Int × (Nat → BitVec 8))) e w => EnvHas e [(1, VU .u64 s63.1), (2, .pointer (some ⟨b4, 0, none⟩)), (4, .pointer (some ⟨b5, 0, none⟩)), (5, VN s63.2.1), (6, .int .i64 s63.2.2.1)] ∧ St B w0 (⟨some b5, 0, 16, fun q => VU .u8 ((fun _ => 0#8) q), true⟩ :: ⟨some b4, 0, 16, fun q => VU .u8 (s63.2.2.2 q), true⟩ :: L) w) ⟨(zer (zer (zer (zer (zer zen))))), h5⟩ ?_
  rintro ⟨n_58, carry59, i_60, m61⟩ o63 hR hx63 ev64 wl64 ⟨he64, h64⟩
  obtain ⟨ev64, rfl⟩ := he64.open
  unfold letheref04_Next_l0 at hR
  refine W.seq_k fun _ k65 => W.seq_k fun _ k66 => ?_
  refine W.regionT [(0, true), (1, true)] (by kernel_rfl) ?_
  refine Plan.move_int rfl rfl <| Plan.cmpP (a := (i_60 : Int)) (b := (0 : Int)) (p := 0 ≤ i_60) rfl rfl rfl rfl icmp_ge <| Plan.nil (k66 _ _ ?_); clear k66
  by_cases hc67 : 0 ≤ i_60
  ·
   replace hR := ifT hR hc67
   refine W.condT (congrArg Value.bool (decide_eq_true hc67)) ?_
   refine W.skip ?_
   refine k65 _ _ ?_; clear k65
   refine W.seq_k fun _ k68 => ?_
   refine W.block ?_
   refine W.seq_k fun _ k69 => W.regionT [(0, true), (1, true), (2, true), (3, true), (4, true), (5, true), (6, true), (7, true), (8, true), (9, true), (10, true)] (by kernel_rfl) ?_
   refine Plan.move_int rfl rfl ?_
   obtain ⟨hc70, hR⟩ := hR
   refine Plan.idxArr1 (j := i_60.toNat) FRef04.arr27 rfl rfl (congrArg (Value.int .i64) (Int.toNat_of_nonneg hc70.1).symm) (by omega) <| Plan.load1 (j := i_60.toNat) h64 1 rfl rfl rfl (by omega) FRef04.sc5 <| Plan.convN (a := (m61 i_60.toNat).toNat) FRef04.u3 FRef04.some5 rfl rfl (Nat.lt_of_lt_of_le (m61 i_60.toNat).isLt (by decide)) <| Plan.move_int rfl rfl <| Plan.remU .u64 (X := n_58) (Y := 256#64) rfl rfl rfl (by decide) ?_
   obtain ⟨hc71, hR⟩ := hR
   refine Plan.convN (a := (n_58 % (256#64)).toNat) FRef04.u3 FRef04.some29 rfl rfl hc71 ?_
   obtain ⟨hc72, hR⟩ := hR
   refine Plan.addN (a := (m61 i_60.toNat).toNat) (b := (n_58 % (256#64)).toNat) rfl rfl rfl (by omega) <| Plan.move_int rfl rfl ?_
   obtain ⟨hc73, hR⟩ := hR
   refine Plan.addN (a := (((m61 i_60.toNat).toNat) + ((n_58 % (256#64)).toNat))) (b := carry59) rfl rfl rfl (by omega) <| Plan.assign_int rfl rfl <| Plan.nil (k69 _ _ ?_); clear k69
   refine W.seq_k fun _ k74 => W.regionT [(0, true), (1, true), (2, true), (3, true), (4, true), (5, false)] (by kernel_rfl) ?_
   refine Plan.move_int rfl rfl <| Plan.move_int rfl rfl <| Plan.remN (a := ((((m61 i_60.toNat).toNat) + ((n_58 % (256#64)).toNat)) + carry59)) (b := 256) rfl rfl rfl (by omega) <| Plan.convNU .u8 (a := (((((m61 i_60.toNat).toNat) + ((n_58 % (256#64)).toNat)) + carry59) % 256)) FRef04.u5 FRef04.some3 rfl rfl ?_
   obtain ⟨hc75, hR⟩ := hR
   refine Plan.idxArr1 (j := i_60.toNat) FRef04.arr27 rfl rfl (congrArg (Value.int .i64) (Int.toNat_of_nonneg hc75.1).symm) (by omega) ?_
   refine Plan.storeU (j := i_60.toNat) (X := (BitVec.ofNat 8 (((((m61 i_60.toNat).toNat) + ((n_58 % (256#64)).toNat)) + carry59) % 256))) h64 1 rfl rfl rfl rfl (by omega) FRef04.sz5 rfl fun w76 h76 => ?_
   simp only [zca, zna, zsz, zss] at h76
   refine Plan.nil (k74 _ _ ?_); clear k74
   refine W.seq_k fun _ k77 => W.regionT [(0, true), (1, true), (2, true)] (by kernel_rfl) ?_
   refine Plan.move_int rfl rfl ?_
   obtain ⟨hc78, hR⟩ := hR
   refine Plan.quoN (a := ((((m61 i_60.toNat).toNat) + ((n_58 % (256#64)).toNat)) + carry59)) (b := 256) rfl rfl rfl (by omega) <| Plan.assign_int rfl rfl <| Plan.nil (k77 _ _ ?_); clear k77
   refine W.regionT [(0, true), (1, true), (2, true)] (by kernel_rfl) ?_
   refine Plan.move_int rfl rfl <| Plan.quoU .u64 (X := n_58) (Y := 256#64) rfl rfl rfl (by decide) <| Plan.assign_int rfl rfl <| Plan.nil ?_
   refine blockR_norm ?_
   refine k68 _ _ ?_; clear k68
   refine W.regionT [(0, true), (1, true), (2, true)] (by kernel_rfl) ?_
   refine Plan.move_int rfl rfl ?_
   obtain ⟨hc79, hR⟩ := hR
   refine Plan.subI (a := i_60) (b := 1) rfl rfl rfl (by omega) <| Plan.assign_int rfl rfl <| Plan.nil ?_
   exact iterR_norm ⟨_, hR, (zer (zer (zer (zer (zer zen))))), h76⟩
  ·
   replace hR := ifF hR hc67
   refine W.condF (congrArg Value.bool (decide_eq_false hc67)) ?_
   refine W.exit (thenR_exit (iterR_exit (blockR_here ?_)))
   exact ⟨m61, (hx63 _ hR).symm, (zer (zer zen)), h64⟩
 ·
  rintro ev80 wl80 ⟨y_m62, hy80, he80, h80⟩
  obtain ⟨ev80, rfl⟩ := he80.open
  subst hy80
  replace hR := hR063
  refine k7 _ _ ?_; clear k7
  refine W.seq_k fun _ k81 => W.regionT [(0, true), (1, false)] (by kernel_rfl) ?_
  refine Plan.loadA1 h80 1 rfl rfl rfl FRef04.agg27 ?_
  refine Plan.storeA (f' := fun q => VU .u8 (m62 q)) h80 0 rfl rfl rfl rfl (fun _ _ => rfl) FRef04.sz27 rfl fun w82 h82 => ?_
  simp only [zca, zna, zsz, zss] at h82
  refine Plan.nil (k81 _ _ ?_); clear k81
  refine W.ret (finR_ret ?_)
  have h83 := St.pickT (C := [_, _]) h82 [] (by decide)
  simp only [pick, zfc, zfn, zgz, zgs, zca, zna] at h83
  subst r
  refine RetOk.mk (.agg h82 rfl (.cons 0 rfl .nil) FRef04.agg27 .nil) ?_
  exact ⟨rfl, h83⟩
theorem letheref04_Cipher_add_ok {B : Nat} {w0 w : World} {L : List Rg} {bc1 : Nat} {cW2 : List (Nat → BitVec 8)} {acW2 : Option Addr} {ncW2 ccW2 icW2 : Nat} (hcW2 : LV D76 L icW2 acW2 ncW2 ccW2 cW2) {cs3 : Nat → BitVec 8} {cu4 : Nat → BitVec 8} {b5 : Nat → BitVec 8} {r_6 : Int} {r : (Nat → BitVec 8)} (hR : letheref04_Cipher_add cW2 cs3 cu4 b5 r_6 r) (HST : St B w0 (⟨some bc1, 0, 1, fun _ => .slice acW2 ncW2 ccW2, true⟩ :: ⟨some bc1, 1, 256, fun q => VU .u8 (cs3 q), true⟩ :: ⟨some bc1, 257, 256, fun q => VU .u8 (cu4 q), true⟩ :: L) w) :
  Calls Try.prog 42 #[.pointer (some ⟨bc1, 0, none⟩), AG [(16, fun q => VU .u8 (b5 q))], .int .i64 r_6] w fun e w' => e = .returned (AG [(16, fun q => VU .u8 (r q))]) ∧ St B w0 (⟨some bc1, 0, 1, fun _ => .slice acW2 ncW2 ccW2, true⟩ :: ⟨some bc1, 1, 256, fun q => VU .u8 (cs3 q), true⟩ :: ⟨some bc1, 257, 256, fun q => VU .u8 (cu4 q), true⟩ :: L) w' := by
 refine W.enter 33 Try.func42 rfl rfl rfl ?_
 unfold letheref04_Cipher_add at hR
 have ecW2 := hcW2.hl; subst ecW2
 refine W.seq_k fun _ k7 => W.regionT [(0, false), (1, false)] (by kernel_rfl) ?_
 refine Plan.boxA HST rfl rfl PIn.nil fun b8 w8 hb8 h8 => ?_
 simp only [rngs, Nat.zero_add, Nat.reduceAdd, zca, zna] at h8
 refine Plan.alloc h8 rfl FRef04.z27 PIn.nil fun b9 w9 hb9 h9 => ?_
 simp only [rngs, Nat.zero_add, Nat.reduceAdd, zca, zna] at h9
 refine Plan.nil (k7 _ _ ?_); clear k7
 refine W.seq_k fun _ k10 => W.seq_k fun _ k11 => ?_
 refine W.regionT [(0, true)] (by kernel_rfl) ?_
 refine Plan.assign_int rfl rfl <| Plan.nil (k11 _ _ ?_); clear k11
 obtain ⟨m35, hI36, hR036⟩ := hR
 refine W.cutN (fun e w => ∃ y_m35 : Nat → BitVec 8, m35 = y_m35 ∧ EnvHas e [(4, .pointer (some ⟨b8, 0, none⟩)), (6, .pointer (some ⟨b9, 0, none⟩))] ∧ St B w0 (⟨some b9, 0, 16, fun q => VU .u8 ((fun _ => 0#8) q), true⟩ :: ⟨some b8, 0, 16, fun q => VU .u8 (y_m35 q), true⟩ :: ⟨some bc1, 0, 1, fun _ => .slice acW2 cW2.length ccW2, true⟩ :: ⟨some bc1, 1, 256, fun q => VU .u8 (cs3 q), true⟩ :: ⟨some bc1, 257, 256, fun q => VU .u8 (cu4 q), true⟩ :: L) w) ?_ ?_
 ·
  refine W.block ?_
  refine W.iter hI36 (fun (s36 : (Nat × (Nat → BitVec 8))) e w => EnvHas e [(0, .pointer (some ⟨bc1, 0, none⟩)), (2, .int .i64 r_6), (4, .pointer (some ⟨b8, 0, none⟩)), (6, .pointer (some ⟨b9, 0, none⟩)), (7, VN s36.1)] ∧ St B w0 (⟨some b9, 0, 16, fun q => VU .u8 ((fun _ => 0#8) q), true⟩ :: ⟨some b8, 0, 16, fun q => VU .u8 (s36.2 q), true⟩ :: ⟨some bc1, 0, 1, fun _ => .slice acW2 cW2.length ccW2, true⟩ :: ⟨some bc1, 1, 256, fun q => VU .u8 (cs3 q), true⟩ :: ⟨some bc1, 257, 256, fun q => VU .u8 (cu4 q), true⟩ :: L) w) ⟨(zer (zer (zer (zer (zer zen))))), h9⟩ ?_
  rintro ⟨i_33, m34⟩ o36 hR hx36 ev37 wl37 ⟨he37, h37⟩
  obtain ⟨ev37, rfl⟩ := he37.open
  unfold letheref04_Cipher_add_l0 at hR
  refine W.seq_k fun _ k38 => W.seq_k fun _ k39 => ?_
  refine W.regionT [(0, true), (1, true)] (by kernel_rfl) ?_
  refine Plan.move_int rfl rfl <| Plan.cmpP (a := (((i_33 : Nat) : Int) : Int)) (b := (16 : Int)) (p := i_33 < 16) rfl rfl rfl rfl icmp_ltN <| Plan.nil (k39 _ _ ?_); clear k39
  by_cases hc40 : i_33 < 16
  ·
   replace hR := ifT hR hc40
   refine W.condT (congrArg Value.bool (decide_eq_true hc40)) ?_
   refine W.skip ?_
   refine k38 _ _ ?_; clear k38
   refine W.seq_k fun _ k41 => ?_
   refine W.block ?_
   refine W.regionD FRef04.mixed [(0, true), (1, true), (2, true), (3, true), (4, true), (5, true), (6, true), (7, true), (8, true), (9, true), (10, true), (11, true), (12, true), (13, true), (14, true), (15, true), (16, true), (17, true), (18, true), (19, true), (20, false)] (by kernel_rfl) ?_
   have h42 := h37.drew
   refine Plan.move_int rfl rfl <| Plan.move_int rfl rfl <| Plan.idxArr1 (j := i_33) FRef04.arr27 rfl rfl rfl (by omega) <| Plan.load1 (j := i_33) h42 1 rfl rfl rfl (by omega) FRef04.sc5 <| Plan.move_ptr rfl rfl <| Plan.nilCheck rfl rfl <| Plan.fieldAddr0 FRef04.fld84_0 rfl rfl <| Plan.load0 h42 2 rfl rfl rfl (by omega) FRef04.sc82 ?_
   refine Plan.move_int rfl rfl ?_
   obtain ⟨hc43, hR⟩ := hR
   refine Plan.mulI (a := 4) (b := r_6) rfl rfl rfl (by omega) <| Plan.move_int rfl rfl <| Plan.quoN (a := i_33) (b := 4) rfl rfl rfl (by omega) ?_
   obtain ⟨hc44, hR⟩ := hR
   refine Plan.addI (a := (4 * r_6)) (b := (((i_33 / 4) : Nat) : Int)) rfl rfl rfl (by omega) <| Plan.move_int rfl rfl <| Plan.remN (a := i_33) (b := 4) rfl rfl rfl (by omega) ?_
   obtain ⟨hc45, hR⟩ := hR
   refine Plan.idxLVS (D := D76) (j := ((4 * r_6) + (((i_33 / 4) : Nat) : Int)).toNat) h42 (hcW2.app [_, _, _, _, _]) FRef04.sl82 rfl rfl (congrArg (Value.int .i64) (Int.toNat_of_nonneg hc45.1).symm) (toNat_lt hc45.1 hc45.2) <| Plan.idxLVE (D := D76) (j := ((4 * r_6) + (((i_33 / 4) : Nat) : Int)).toNat) (sz := 4) (q := (i_33 % 4)) h42 (hcW2.app [_, _, _, _, _]) (toNat_lt hc45.1 hc45.2) FRef04.arr76 rfl rfl rfl (by omega) ?_
   refine Plan.loadLVf (D := D76) (X := cW2) (j := ((4 * r_6) + (((i_33 / 4) : Nat) : Int)).toNat) (sz := 4) (off := (i_33 % 4)) h42 (fun _ => 0#8) (fun _ x => VU .u8 (x (i_33 % 4))) (hcW2.app [_, _, _, _, _]) rfl rfl (toNat_lt hc45.1 hc45.2) rfl (by omega) (fun _ _ => catL_get1 (by omega)) FRef04.sc5 fun b46 r46 hs46 hr46 => ?_
   refine Plan.xorU .u8 (X := (m34 i_33)) (Y := ((cW2.getD (((4 * r_6) + (((i_33 / 4) : Nat) : Int)).toNat) (fun _ => 0#8)) (i_33 % 4))) rfl rfl rfl ?_
   refine Plan.idxArr1 (j := i_33) FRef04.arr27 rfl rfl rfl (by omega) ?_
   refine Plan.storeU (j := i_33) (X := ((m34 i_33) ^^^ ((cW2.getD (((4 * r_6) + (((i_33 / 4) : Nat) : Int)).toNat) (fun _ => 0#8)) (i_33 % 4)))) h42 1 rfl rfl rfl rfl (by omega) FRef04.sz5 rfl fun w47 h47 => ?_
   simp only [zca, zna, zsz, zss] at h47
   refine Plan.nil ?_
   refine blockR_norm ?_
   refine k41 _ _ ?_; clear k41
   refine W.regionT [(0, true), (1, true), (2, true)] (by kernel_rfl) ?_
   refine Plan.move_int rfl rfl <| Plan.addN (a := i_33) (b := 1) rfl rfl rfl (by omega) <| Plan.assign_int rfl rfl <| Plan.nil ?_
   exact iterR_norm ⟨_, hR, (zer (zer (zer (zer (zer zen))))), h47⟩
  ·
   replace hR := ifF hR hc40
   refine W.condF (congrArg Value.bool (decide_eq_false hc40)) ?_
   refine W.exit (thenR_exit (iterR_exit (blockR_here ?_)))
   exact ⟨m34, (hx36 _ hR).symm, (zer (zer zen)), h37⟩
 ·
  rintro ev48 wl48 ⟨y_m35, hy48, he48, h48⟩
  obtain ⟨ev48, rfl⟩ := he48.open
  subst hy48
  replace hR := hR036
  refine k10 _ _ ?_; clear k10
  refine W.seq_k fun _ k49 => W.regionT [(0, true), (1, false)] (by kernel_rfl) ?_
  refine Plan.loadA1 h48 1 rfl rfl rfl FRef04.agg27 ?_
  refine Plan.storeA (f' := fun q => VU .u8 (m35 q)) h48 0 rfl rfl rfl rfl (fun _ _ => rfl) FRef04.sz27 rfl fun w50 h50 => ?_
  simp only [zca, zna, zsz, zss] at h50
  refine Plan.nil (k49 _ _ ?_); clear k49
  refine W.ret (finR_ret ?_)
  have h51 := St.pickT (C := [_, _, _, _, _]) h50 [2, 3, 4] (by decide)
  simp only [pick, zfc, zfn, zgz, zgs, zca, zna] at h51
  subst r
  refine RetOk.mk (.agg h50 rfl (.cons 0 rfl .nil) FRef04.agg27 .nil) ?_
  exact ⟨rfl, h51⟩
theorem letheref04_Cipher_rounds_ok {B : Nat} {w0 w : World} {L : List Rg} {bc1 : Nat} {cW2 : List (Nat → BitVec 8)} {acW2 : Option Addr} {ncW2 ccW2 icW2 : Nat} (hcW2 : LV D76 L icW2 acW2 ncW2 ccW2 cW2) {cs3 : Nat → BitVec 8} {cu4 : Nat → BitVec 8} {r : Int} (hR : letheref04_Cipher_rounds cW2 cs3 cu4 r) (HST : St B w0 (⟨some bc1, 0, 1, fun _ => .slice acW2 ncW2 ccW2, true⟩ :: ⟨some bc1, 1, 256, fun q => VU .u8 (cs3 q), true⟩ :: ⟨some bc1, 257, 256, fun q => VU .u8 (cu4 q), true⟩ :: L) w) :
  Calls Try.prog 43 #[.pointer (some ⟨bc1, 0, none⟩)] w fun e w' => e = .returned (.int .i64 r) ∧ St B w0 (⟨some bc1, 0, 1, fun _ => .slice acW2 ncW2 ccW2, true⟩ :: ⟨some bc1, 1, 256, fun q => VU .u8 (cs3 q), true⟩ :: ⟨some bc1, 257, 256, fun q => VU .u8 (cu4 q), true⟩ :: L) w' := by
 refine W.enter 10 Try.func43 rfl rfl rfl ?_
 unfold letheref04_Cipher_rounds at hR
 have ecW2 := hcW2.hl; subst ecW2
 refine W.seq_k fun _ k5 => W.regionT [(0, true)] (by kernel_rfl) ?_
 refine Plan.assign_int rfl rfl <| Plan.nil (k5 _ _ ?_); clear k5
 refine W.seq_k fun _ k6 => W.regionT [(0, true), (1, true), (2, true), (3, true), (4, true), (5, true), (6, true), (7, true)] (by kernel_rfl) ?_
 refine Plan.move_ptr rfl rfl <| Plan.nilCheck rfl rfl <| Plan.fieldAddr0 FRef04.fld84_0 rfl rfl <| Plan.load0 HST 0 rfl rfl rfl (by omega) FRef04.sc82 <| Plan.len FRef04.isl82 rfl rfl ?_
 obtain ⟨hc7, hR⟩ := hR
 refine Plan.quoN (a := cW2.length) (b := 4) rfl rfl rfl (by omega) ?_
 obtain ⟨hc8, hR⟩ := hR
 refine Plan.subI (a := (((cW2.length / 4) : Nat) : Int)) (b := 1) rfl rfl rfl (by omega) <| Plan.assign_int rfl rfl <| Plan.nil (k6 _ _ ?_); clear k6
 refine W.ret (finR_ret ?_)
 subst r
 refine RetOk.mk (.tmp_int rfl .nil) ?_
 exact ⟨rfl, HST⟩
theorem letheref04_turned_ok {B : Nat} {w0 w : World} {L : List Rg} {b1 : Nat → BitVec 8} {times2 : Int} {r : (Nat → BitVec 8)} (hR : letheref04_turned b1 times2 r) (HST : St B w0 (L) w) :
  Calls Try.prog 44 #[AG [(16, fun q => VU .u8 (b1 q))], .int .i64 times2] w fun e w' => e = .returned (AG [(16, fun q => VU .u8 (r q))]) ∧ St B w0 (L) w' := by
 refine W.enter 33 Try.func44 rfl rfl rfl ?_
 unfold letheref04_turned at hR
 refine W.seq_k fun _ k3 => W.regionT [(0, false), (1, false)] (by kernel_rfl) ?_
 refine Plan.boxA HST rfl rfl PIn.nil fun b4 w4 hb4 h4 => ?_
 simp only [rngs, Nat.zero_add, Nat.reduceAdd, zca, zna] at h4
 refine Plan.alloc h4 rfl FRef04.z27 PIn.nil fun b5 w5 hb5 h5 => ?_
 simp only [rngs, Nat.zero_add, Nat.reduceAdd, zca, zna] at h5
 refine Plan.nil (k3 _ _ ?_); clear k3
 refine W.seq_k fun _ k6 => W.regionT [(0, false)] (by kernel_rfl) ?_
 refine Plan.alloc h5 rfl FRef04.z27 PIn.nil fun b7 w7 hb7 h7 => ?_
 simp only [rngs, Nat.zero_add, Nat.reduceAdd, zca, zna] at h7
 refine Plan.nil (k6 _ _ ?_); clear k6
 refine W.seq_k fun _ k8 => W.seq_k fun _ k9 => ?_
 refine W.regionT [(0, true)] (by kernel_rfl) ?_
 refine Plan.assign_int rfl rfl <| Plan.nil (k9 _ _ ?_); clear k9
 obtain ⟨m91, hI92, hR092⟩ := hR
 refine W.cutN (fun e w => ∃ y_m91 : Nat → BitVec 8, m91 = y_m91 ∧ EnvHas e [(4, .pointer (some ⟨b5, 0, none⟩)), (5, .pointer (some ⟨b7, 0, none⟩))] ∧ St B w0 (⟨some b7, 0, 16, fun q => VU .u8 (y_m91 q), true⟩ :: ⟨some b5, 0, 16, fun q => VU .u8 ((fun _ => 0#8) q), true⟩ :: L) w) ?_ ?_
 ·
  refine W.block ?_
  refine W.iter hI92 (fun (s92 : (Nat × (Nat → BitVec 8))) e w => EnvHas e [(1, .int .i64 times2), (2, .pointer (some ⟨b4, 0, none⟩)), (4, .pointer (some ⟨b5, 0, none⟩)), (5, .pointer (some ⟨b7, 0, none⟩)), (6, VN s92.1)] ∧ St B w0 (⟨some b7, 0, 16, fun q => VU .u8 (s92.2 q), true⟩ :: ⟨some b5, 0, 16, fun q => VU .u8 ((fun _ => 0#8) q), true⟩ :: ⟨some b4, 0, 16, fun q => VU .u8 (b1 q), true⟩ :: L) w) ⟨(zer (zer (zer (zer (zer zen))))), h7⟩ ?_
  rintro ⟨col89, m90⟩ o92 hR hx92 ev93 wl93 ⟨he93, h93⟩
  obtain ⟨ev93, rfl⟩ := he93.open
  unfold letheref04_turned_l0 at hR
  refine W.seq_k fun _ k94 => W.seq_k fun _ k95 => ?_
  refine W.regionT [(0, true), (1, true)] (by kernel_rfl) ?_
  refine Plan.move_int rfl rfl <| Plan.cmpP (a := (((col89 : Nat) : Int) : Int)) (b := (4 : Int)) (p := col89 < 4) rfl rfl rfl rfl icmp_ltN <| Plan.nil (k95 _ _ ?_); clear k95
  by_cases hc96 : col89 < 4
  ·
   replace hR := ifT hR hc96
   refine W.condT (congrArg Value.bool (decide_eq_true hc96)) ?_
   refine W.skip ?_
   refine k94 _ _ ?_; clear k94
   refine W.seq_k fun _ k97 => ?_
   refine W.block ?_
   refine W.seq_k fun _ k98 => W.regionT [(0, true)] (by kernel_rfl) ?_
   refine Plan.assign_int rfl rfl <| Plan.nil (k98 _ _ ?_); clear k98
   obtain ⟨m120, hI121, hR0121⟩ := hR
   refine W.cutN (fun e w => ∃ y_m120 : Nat → BitVec 8, m120 = y_m120 ∧ EnvHas e [(1, .int .i64 times2), (2, .pointer (some ⟨b4, 0, none⟩)), (4, .pointer (some ⟨b5, 0, none⟩)), (5, .pointer (some ⟨b7, 0, none⟩)), (6, VN col89)] ∧ St B w0 (⟨some b7, 0, 16, fun q => VU .u8 (y_m120 q), true⟩ :: ⟨some b5, 0, 16, fun q => VU .u8 ((fun _ => 0#8) q), true⟩ :: ⟨some b4, 0, 16, fun q => VU .u8 (b1 q), true⟩ :: L) w) ?_ ?_
   ·
    refine W.block ?_
    refine W.iter hI121 (fun (s121 : (Nat × (Nat → BitVec 8))) e w => EnvHas e [(1, .int .i64 times2), (2, .pointer (some ⟨b4, 0, none⟩)), (4, .pointer (some ⟨b5, 0, none⟩)), (5, .pointer (some ⟨b7, 0, none⟩)), (6, VN col89), (7, VN s121.1)] ∧ St B w0 (⟨some b7, 0, 16, fun q => VU .u8 (s121.2 q), true⟩ :: ⟨some b5, 0, 16, fun q => VU .u8 ((fun _ => 0#8) q), true⟩ :: ⟨some b4, 0, 16, fun q => VU .u8 (b1 q), true⟩ :: L) w) ⟨(zer (zer (zer (zer (zer (zer zen)))))), h93⟩ ?_
    rintro ⟨r_118, m119⟩ o121 hR hx121 ev122 wl122 ⟨he122, h122⟩
    obtain ⟨ev122, rfl⟩ := he122.open
    unfold letheref04_turned_l1 at hR
    refine W.seq_k fun _ k123 => W.seq_k fun _ k124 => ?_
    refine W.regionT [(0, true), (1, true)] (by kernel_rfl) ?_
    refine Plan.move_int rfl rfl <| Plan.cmpP (a := (((r_118 : Nat) : Int) : Int)) (b := (4 : Int)) (p := r_118 < 4) rfl rfl rfl rfl icmp_ltN <| Plan.nil (k124 _ _ ?_); clear k124
    by_cases hc125 : r_118 < 4
    ·
     replace hR := ifT hR hc125
     refine W.condT (congrArg Value.bool (decide_eq_true hc125)) ?_
     refine W.skip ?_
     refine k123 _ _ ?_; clear k123
     refine W.seq_k fun _ k126 => ?_
     refine W.block ?_
     refine W.regionT [(0, true), (1, true), (2, true), (3, true), (4, true), (5, true), (6, true), (7, true), (8, true), (9, true), (10, true), (11, true), (12, true), (13, true), (14, true), (15, true), (16, false)] (by kernel_rfl) ?_
     refine Plan.move_int rfl rfl <| Plan.move_int rfl rfl <| Plan.mulN (a := 4) (b := col89) rfl rfl rfl (by omega) <| Plan.addN (a := r_118) (b := (4 * col89)) rfl rfl rfl (by omega) <| Plan.move_int rfl rfl <| Plan.move_int rfl rfl <| Plan.move_int rfl rfl <| Plan.move_int rfl rfl ?_
     obtain ⟨hc127, hR⟩ := hR
     refine Plan.mulI (a := ((r_118 : Nat) : Int)) (b := times2) rfl rfl rfl (by omega) ?_
     obtain ⟨hc128, hR⟩ := hR
     refine Plan.addI (a := ((col89 : Nat) : Int)) (b := (((r_118 : Nat) : Int) * times2)) rfl rfl rfl (by omega) ?_
     have hb129 := tmod_bd (((col89 : Nat) : Int) + (((r_118 : Nat) : Int) * times2)) (c := 4) (by decide)
     refine Plan.remI (a := (((col89 : Nat) : Int) + (((r_118 : Nat) : Int) * times2))) (b := 4) rfl rfl rfl (by omega) <| Plan.mulI (a := 4) (b := ((((col89 : Nat) : Int) + (((r_118 : Nat) : Int) * times2)).tmod 4)) rfl rfl rfl (by omega) <| Plan.addI (a := ((r_118 : Nat) : Int)) (b := (4 * ((((col89 : Nat) : Int) + (((r_118 : Nat) : Int) * times2)).tmod 4))) rfl rfl rfl (by omega) ?_
     obtain ⟨hc130, hR⟩ := hR
     refine Plan.idxArr1 (j := (((r_118 : Nat) : Int) + (4 * ((((col89 : Nat) : Int) + (((r_118 : Nat) : Int) * times2)).tmod 4))).toNat) FRef04.arr27 rfl rfl (congrArg (Value.int .i64) (Int.toNat_of_nonneg hc130.1).symm) (by omega) <| Plan.load1 (j := (((r_118 : Nat) : Int) + (4 * ((((col89 : Nat) : Int) + (((r_118 : Nat) : Int) * times2)).tmod 4))).toNat) h122 2 rfl rfl rfl (by omega) FRef04.sc5 <| Plan.idxArr1 (j := (r_118 + (4 * col89))) FRef04.arr27 rfl rfl rfl (by omega) ?_
     refine Plan.storeU (j := (r_118 + (4 * col89))) (X := (b1 ((((r_118 : Nat) : Int) + (4 * ((((col89 : Nat) : Int) + (((r_118 : Nat) : Int) * times2)).tmod 4))).toNat))) h122 0 rfl rfl rfl rfl (by omega) FRef04.sz5 rfl fun w131 h131 => ?_
     simp only [zca, zna, zsz, zss] at h131
     refine Plan.nil ?_
     refine blockR_norm ?_
     refine k126 _ _ ?_; clear k126
     refine W.regionT [(0, true), (1, true), (2, true)] (by kernel_rfl) ?_
     refine Plan.move_int rfl rfl <| Plan.addN (a := r_118) (b := 1) rfl rfl rfl (by omega) <| Plan.assign_int rfl rfl <| Plan.nil ?_
     exact iterR_norm ⟨_, hR, (zer (zer (zer (zer (zer (zer zen)))))), h131⟩
    ·
     replace hR := ifF hR hc125
     refine W.condF (congrArg Value.bool (decide_eq_false hc125)) ?_
     refine W.exit (thenR_exit (iterR_exit (blockR_here ?_)))
     exact ⟨m119, (hx121 _ hR).symm, (zer (zer (zer (zer (zer zen))))), h122⟩
   ·
    rintro ev132 wl132 ⟨y_m120, hy132, he132, h132⟩
    obtain ⟨ev132, rfl⟩ := he132.open
    subst hy132
    replace hR := hR0121
    refine blockR_norm ?_
    refine k97 _ _ ?_; clear k97
    refine W.regionT [(0, true), (1, true), (2, true)] (by kernel_rfl) ?_
    refine Plan.move_int rfl rfl <| Plan.addN (a := col89) (b := 1) rfl rfl rfl (by omega) <| Plan.assign_int rfl rfl <| Plan.nil ?_
    exact iterR_norm ⟨_, hR, (zer (zer (zer (zer (zer zen))))), h132⟩
  ·
   replace hR := ifF hR hc96
   refine W.condF (congrArg Value.bool (decide_eq_false hc96)) ?_
   refine W.exit (thenR_exit (iterR_exit (blockR_here ?_)))
   have h133 := St.pickT (C := [_, _, _]) h93 [0, 1] (by decide)
   simp only [pick, zfc, zfn, zgz, zgs, zca, zna] at h133
   exact ⟨m90, (hx92 _ hR).symm, (zer (zer zen)), h133⟩
 ·
  rintro ev134 wl134 ⟨y_m91, hy134, he134, h134⟩
  obtain ⟨ev134, rfl⟩ := he134.open
  subst hy134
  replace hR := hR092
  refine k8 _ _ ?_; clear k8
  refine W.seq_k fun _ k135 => W.regionT [(0, true), (1, false)] (by kernel_rfl) ?_
  refine Plan.loadA1 h134 0 rfl rfl rfl FRef04.agg27 ?_
  refine Plan.storeA (f' := fun q => VU .u8 (m91 q)) h134 1 rfl rfl rfl rfl (fun _ _ => rfl) FRef04.sz27 rfl fun w136 h136 => ?_
  simp only [zca, zna, zsz, zss] at h136
  refine Plan.nil (k135 _ _ ?_); clear k135
  refine W.ret (finR_ret ?_)
  have h137 := St.pickT (C := [_, _]) h136 [] (by decide)
  simp only [pick, zfc, zfn, zgz, zgs, zca, zna] at h137
  subst r
  refine RetOk.mk (.agg h136 rfl (.cons 1 rfl .nil) FRef04.agg27 .nil) ?_
  exact ⟨rfl, h137⟩
theorem letheref04_mixed_ok {B : Nat} {w0 w : World} {L : List Rg} {b1 : Nat → BitVec 8} {r : (Nat → BitVec 8)} (hR : letheref04_mixed b1 r) (HST : St B w0 (L) w) :
  Calls Try.prog 45 #[AG [(16, fun q => VU .u8 (b1 q))]] w fun e w' => e = .returned (AG [(16, fun q => VU .u8 (r q))]) ∧ St B w0 (L) w' := by
 refine W.enter 57 Try.func45 rfl rfl rfl ?_
 unfold letheref04_mixed at hR
 refine W.seq_k fun _ k2 => W.regionT [(0, false), (1, false)] (by kernel_rfl) ?_
 refine Plan.boxA HST rfl rfl PIn.nil fun b3 w3 hb3 h3 => ?_
 simp only [rngs, Nat.zero_add, Nat.reduceAdd, zca, zna] at h3
 refine Plan.alloc h3 rfl FRef04.z27 PIn.nil fun b4 w4 hb4 h4 => ?_
 simp only [rngs, Nat.zero_add, Nat.reduceAdd, zca, zna] at h4
 refine Plan.nil (k2 _ _ ?_); clear k2
 refine W.seq_k fun _ k5 => W.regionT [(0, false)] (by kernel_rfl) ?_
 refine Plan.alloc h4 rfl FRef04.z27 PIn.nil fun b6 w6 hb6 h6 => ?_
 simp only [rngs, Nat.zero_add, Nat.reduceAdd, zca, zna] at h6
 refine Plan.nil (k5 _ _ ?_); clear k5
 refine W.seq_k fun _ k7 => W.seq_k fun _ k8 => ?_
 refine W.regionT [(0, true)] (by kernel_rfl) ?_
 refine Plan.assign_int rfl rfl <| Plan.nil (k8 _ _ ?_); clear k8
 obtain ⟨m120, hI121, hR0121⟩ := hR
 refine W.cutN (fun e w => ∃ y_m120 : Nat → BitVec 8, m120 = y_m120 ∧ EnvHas e [(2, .pointer (some ⟨b4, 0, none⟩)), (3, .pointer (some ⟨b6, 0, none⟩))] ∧ St B w0 (⟨some b6, 0, 16, fun q => VU .u8 (y_m120 q), true⟩ :: ⟨some b4, 0, 16, fun q => VU .u8 ((fun _ => 0#8) q), true⟩ :: L) w) ?_ ?_
 ·
  refine W.block ?_
  refine W.iter hI121 (fun (s121 : (Nat × (Nat → BitVec 8))) e w => EnvHas e [(1, .pointer (some ⟨b3, 0, none⟩)), (2, .pointer (some ⟨b4, 0, none⟩)), (3, .pointer (some ⟨b6, 0, none⟩)), (4, VN s121.1)] ∧ St B w0 (⟨some b6, 0, 16, fun q => VU .u8 (s121.2 q), true⟩ :: ⟨some b4, 0, 16, fun q => VU .u8 ((fun _ => 0#8) q), true⟩ :: ⟨some b3, 0, 16, fun q => VU .u8 (b1 q), true⟩ :: L) w) ⟨(zer (zer (zer (zer zen)))), h6⟩ ?_
  rintro ⟨col118, m119⟩ o121 hR hx121 ev122 wl122 ⟨he122, h122⟩
  obtain ⟨ev122, rfl⟩ := he122.open
  unfold letheref04_mixed_l0 at hR
  refine W.seq_k fun _ k123 => W.seq_k fun _ k124 => ?_
  refine W.regionT [(0, true), (1, true)] (by kernel_rfl) ?_
  refine Plan.move_int rfl rfl <| Plan.cmpP (a := (((col118 : Nat) : Int) : Int)) (b := (4 : Int)) (p := col118 < 4) rfl rfl rfl rfl icmp_ltN <| Plan.nil (k124 _ _ ?_); clear k124
  by_cases hc125 : col118 < 4
  ·
   replace hR := ifT hR hc125
   refine W.condT (congrArg Value.bool (decide_eq_true hc125)) ?_
   refine W.skip ?_
   refine k123 _ _ ?_; clear k123
   refine W.seq_k fun _ k126 => ?_
   refine W.block ?_
   refine W.seq_k fun _ k127 => W.regionT [(0, true)] (by kernel_rfl) ?_
   refine Plan.assign_int rfl rfl <| Plan.nil (k127 _ _ ?_); clear k127
   obtain ⟨m159, hI160, hR0160⟩ := hR
   refine W.cutN (fun e w => ∃ y_m159 : Nat → BitVec 8, m159 = y_m159 ∧ EnvHas e [(1, .pointer (some ⟨b3, 0, none⟩)), (2, .pointer (some ⟨b4, 0, none⟩)), (3, .pointer (some ⟨b6, 0, none⟩)), (4, VN col118)] ∧ St B w0 (⟨some b6, 0, 16, fun q => VU .u8 (y_m159 q), true⟩ :: ⟨some b4, 0, 16, fun q => VU .u8 ((fun _ => 0#8) q), true⟩ :: ⟨some b3, 0, 16, fun q => VU .u8 (b1 q), true⟩ :: L) w) ?_ ?_
   ·
    refine W.block ?_
    refine W.iter hI160 (fun (s160 : (Nat × (Nat → BitVec 8))) e w => EnvHas e [(1, .pointer (some ⟨b3, 0, none⟩)), (2, .pointer (some ⟨b4, 0, none⟩)), (3, .pointer (some ⟨b6, 0, none⟩)), (4, VN col118), (5, VN s160.1)] ∧ St B w0 (⟨some b6, 0, 16, fun q => VU .u8 (s160.2 q), true⟩ :: ⟨some b4, 0, 16, fun q => VU .u8 ((fun _ => 0#8) q), true⟩ :: ⟨some b3, 0, 16, fun q => VU .u8 (b1 q), true⟩ :: L) w) ⟨(zer (zer (zer (zer (zer zen))))), h122⟩ ?_
    rintro ⟨r_157, m158⟩ o160 hR hx160 ev161 wl161 ⟨he161, h161⟩
    obtain ⟨ev161, rfl⟩ := he161.open
    unfold letheref04_mixed_l1 at hR
    refine W.seq_k fun _ k162 => W.seq_k fun _ k163 => ?_
    refine W.regionT [(0, true), (1, true)] (by kernel_rfl) ?_
    refine Plan.move_int rfl rfl <| Plan.cmpP (a := (((r_157 : Nat) : Int) : Int)) (b := (4 : Int)) (p := r_157 < 4) rfl rfl rfl rfl icmp_ltN <| Plan.nil (k163 _ _ ?_); clear k163
    by_cases hc164 : r_157 < 4
    ·
     replace hR := ifT hR hc164
     refine W.condT (congrArg Value.bool (decide_eq_true hc164)) ?_
     refine W.skip ?_
     refine k162 _ _ ?_; clear k162
     refine W.seq_k fun _ k165 => ?_
     refine W.block ?_
     refine W.seq_k fun _ k166 => ?_
     refine W.regionD FRef04.mixed [(0, true), (1, true), (2, true), (3, true), (4, true), (5, true), (7, true), (8, true), (9, true), (10, true), (11, true), (12, true), (13, true), (14, true), (6, false), (15, false), (16, true), (17, true)] (by kernel_rfl) ?_
     have h167 := h161.drew
     refine Plan.move_int rfl rfl <| Plan.mulN (a := 4) (b := col118) rfl rfl rfl (by omega) <| Plan.move_int rfl rfl <| Plan.addN (a := (4 * col118)) (b := r_157) rfl rfl rfl (by omega) <| Plan.idxArr1 (j := ((4 * col118) + r_157)) FRef04.arr27 rfl rfl rfl (by omega) <| Plan.load1 (j := ((4 * col118) + r_157)) h167 2 rfl rfl rfl (by omega) FRef04.sc5 <| Plan.move_int rfl rfl <| Plan.mulN (a := 4) (b := col118) rfl rfl rfl (by omega) ?_
     refine Plan.move_int rfl rfl <| Plan.addN (a := r_157) (b := 1) rfl rfl rfl (by omega) <| Plan.remN (a := (r_157 + 1)) (b := 4) rfl rfl rfl (by omega) <| Plan.addN (a := (4 * col118)) (b := ((r_157 + 1) % 4)) rfl rfl rfl (by omega) <| Plan.idxArr1 (j := ((4 * col118) + ((r_157 + 1) % 4))) FRef04.arr27 rfl rfl rfl (by omega) <| Plan.load1 (j := ((4 * col118) + ((r_157 + 1) % 4))) h167 2 rfl rfl rfl (by omega) FRef04.sc5 ?_
     obtain ⟨x_169, hr168, hR⟩ := hR
     refine Plan.call (vs := [VU .u8 (2#8), VU .u8 (b1 ((4 * col118) + r_157))]) rfl FRef04.call28 rfl (letheref04_Mul_ok  hr168 h167) ?_
     rintro _ w170 ⟨rfl, h170⟩
     refine ⟨_, rfl, .inl ⟨PIn.keep (PIn.cons 2 rfl (PIn.cons 2 rfl PIn.nil)) h170, ?_⟩⟩
     obtain ⟨x_172, hr171, hR⟩ := hR
     refine Plan.call (vs := [VU .u8 (3#8), VU .u8 (b1 ((4 * col118) + ((r_157 + 1) % 4)))]) rfl FRef04.call28 rfl (letheref04_Mul_ok  hr171 h170) ?_
     rintro _ w173 ⟨rfl, h173⟩
     refine ⟨_, rfl, .inl ⟨PIn.keep (PIn.cons 2 rfl (PIn.cons 2 rfl PIn.nil)) h173, ?_⟩⟩
     refine Plan.xorU .u8 (X := x_169) (Y := x_172) rfl rfl rfl <| Plan.assign_int rfl rfl <| Plan.nil (k166 _ _ ?_); clear k166
     refine W.regionD FRef04.mixed [(0, true), (1, true), (2, true), (3, true), (4, true), (5, true), (6, true), (7, true), (8, true), (9, true), (10, true), (11, true), (12, true), (13, true), (14, true), (15, true), (16, true), (17, true), (18, true), (19, true), (20, true), (21, true), (22, true), (23, true), (24, false)] (by kernel_rfl) ?_
     have h174 := h173.drew
     refine Plan.move_int rfl rfl <| Plan.mulN (a := 4) (b := col118) rfl rfl rfl (by omega) <| Plan.move_int rfl rfl <| Plan.addN (a := (4 * col118)) (b := r_157) rfl rfl rfl (by omega) <| Plan.move_int rfl rfl <| Plan.move_int rfl rfl <| Plan.mulN (a := 4) (b := col118) rfl rfl rfl (by omega) <| Plan.move_int rfl rfl ?_
     refine Plan.addN (a := r_157) (b := 2) rfl rfl rfl (by omega) <| Plan.remN (a := (r_157 + 2)) (b := 4) rfl rfl rfl (by omega) <| Plan.addN (a := (4 * col118)) (b := ((r_157 + 2) % 4)) rfl rfl rfl (by omega) <| Plan.idxArr1 (j := ((4 * col118) + ((r_157 + 2) % 4))) FRef04.arr27 rfl rfl rfl (by omega) <| Plan.load1 (j := ((4 * col118) + ((r_157 + 2) % 4))) h174 2 rfl rfl rfl (by omega) FRef04.sc5 <| Plan.xorU .u8 (X := (x_169 ^^^ x_172)) (Y := (b1 ((4 * col118) + ((r_157 + 2) % 4)))) rfl rfl rfl <| Plan.move_int rfl rfl <| Plan.mulN (a := 4) (b := col118) rfl rfl rfl (by omega) ?_
     refine Plan.move_int rfl rfl <| Plan.addN (a := r_157) (b := 3) rfl rfl rfl (by omega) <| Plan.remN (a := (r_157 + 3)) (b := 4) rfl rfl rfl (by omega) <| Plan.addN (a := (4 * col118)) (b := ((r_157 + 3) % 4)) rfl rfl rfl (by omega) <| Plan.idxArr1 (j := ((4 * col118) + ((r_157 + 3) % 4))) FRef04.arr27 rfl rfl rfl (by omega) <| Plan.load1 (j := ((4 * col118) + ((r_157 + 3) % 4))) h174 2 rfl rfl rfl (by omega) FRef04.sc5 <| Plan.xorU .u8 (X := ((x_169 ^^^ x_172) ^^^ (b1 ((4 * col118) + ((r_157 + 2) % 4))))) (Y := (b1 ((4 * col118) + ((r_157 + 3) % 4)))) rfl rfl rfl <| Plan.idxArr1 (j := ((4 * col118) + r_157)) FRef04.arr27 rfl rfl rfl (by omega) ?_
     refine Plan.storeU (j := ((4 * col118) + r_157)) (X := (((x_169 ^^^ x_172) ^^^ (b1 ((4 * col118) + ((r_157 + 2) % 4)))) ^^^ (b1 ((4 * col118) + ((r_157 + 3) % 4))))) h174 0 rfl rfl rfl rfl (by omega) FRef04.sz5 rfl fun w175 h175 => ?_
     simp only [zca, zna, zsz, zss] at h175
     refine Plan.nil ?_
     refine blockR_norm ?_
     refine k165 _ _ ?_; clear k165
     refine W.regionT [(0, true), (1, true), (2, true)] (by kernel_rfl) ?_
     refine Plan.move_int rfl rfl <| Plan.addN (a := r_157) (b := 1) rfl rfl rfl (by omega) <| Plan.assign_int rfl rfl <| Plan.nil ?_
     exact iterR_norm ⟨_, hR, (zer (zer (zer (zer (zer zen))))), h175⟩
    ·
     replace hR := ifF hR hc164
     refine W.condF (congrArg Value.bool (decide_eq_false hc164)) ?_
     refine W.exit (thenR_exit (iterR_exit (blockR_here ?_)))
     exact ⟨m158, (hx160 _ hR).symm, (zer (zer (zer (zer zen)))), h161⟩
   ·
    rintro ev176 wl176 ⟨y_m159, hy176, he176, h176⟩
    obtain ⟨ev176, rfl⟩ := he176.open
    subst hy176
    replace hR := hR0160
    refine blockR_norm ?_
    refine k126 _ _ ?_; clear k126
    refine W.regionT [(0, true), (1, true), (2, true)] (by kernel_rfl) ?_
    refine Plan.move_int rfl rfl <| Plan.addN (a := col118) (b := 1) rfl rfl rfl (by omega) <| Plan.assign_int rfl rfl <| Plan.nil ?_
    exact iterR_norm ⟨_, hR, (zer (zer (zer (zer zen)))), h176⟩
  ·
   replace hR := ifF hR hc125
   refine W.condF (congrArg Value.bool (decide_eq_false hc125)) ?_
   refine W.exit (thenR_exit (iterR_exit (blockR_here ?_)))
   have h177 := St.pickT (C := [_, _, _]) h122 [0, 1] (by decide)
   simp only [pick, zfc, zfn, zgz, zgs, zca, zna] at h177
   exact ⟨m119, (hx121 _ hR).symm, (zer (zer zen)), h177⟩
 ·
  rintro ev178 wl178 ⟨y_m120, hy178, he178, h178⟩
  obtain ⟨ev178, rfl⟩ := he178.open
  subst hy178
  replace hR := hR0121
  refine k7 _ _ ?_; clear k7
  refine W.seq_k fun _ k179 => W.regionT [(0, true), (1, false)] (by kernel_rfl) ?_
  refine Plan.loadA1 h178 0 rfl rfl rfl FRef04.agg27 ?_
  refine Plan.storeA (f' := fun q => VU .u8 (m120 q)) h178 1 rfl rfl rfl rfl (fun _ _ => rfl) FRef04.sz27 rfl fun w180 h180 => ?_
  simp only [zca, zna, zsz, zss] at h180
  refine Plan.nil (k179 _ _ ?_); clear k179
  refine W.ret (finR_ret ?_)
  have h181 := St.pickT (C := [_, _]) h180 [] (by decide)
  simp only [pick, zfc, zfn, zgz, zgs, zca, zna] at h181
  subst r
  refine RetOk.mk (.agg h180 rfl (.cons 1 rfl .nil) FRef04.agg27 .nil) ?_
  exact ⟨rfl, h181⟩
theorem letheref04_Cipher_Encrypt_ok {B : Nat} {w0 w : World} {L : List Rg} {bc1 : Nat} {cW2 : List (Nat → BitVec 8)} {acW2 : Option Addr} {ncW2 ccW2 icW2 : Nat} (hcW2 : LV D76 L icW2 acW2 ncW2 ccW2 cW2) {cs3 : Nat → BitVec 8} {cu4 : Nat → BitVec 8} {b5 : Nat → BitVec 8} {r : (Nat → BitVec 8)} (hR : letheref04_Cipher_Encrypt cW2 cs3 cu4 b5 r) (HST : St B w0 (⟨some bc1, 0, 1, fun _ => .slice acW2 ncW2 ccW2, true⟩ :: ⟨some bc1, 1, 256, fun q => VU .u8 (cs3 q), true⟩ :: ⟨some bc1, 257, 256, fun q => VU .u8 (cu4 q), true⟩ :: L) w) :
  Calls Try.prog 34 #[.pointer (some ⟨bc1, 0, none⟩), AG [(16, fun q => VU .u8 (b5 q))]] w fun e w' => e = .returned (AG [(16, fun q => VU .u8 (r q))]) ∧ St B w0 (⟨some bc1, 0, 1, fun _ => .slice acW2 ncW2 ccW2, true⟩ :: ⟨some bc1, 1, 256, fun q => VU .u8 (cs3 q), true⟩ :: ⟨some bc1, 257, 256, fun q => VU .u8 (cu4 q), true⟩ :: L) w' := by
 refine W.enter 43 Try.func34 rfl rfl rfl ?_
 unfold letheref04_Cipher_Encrypt at hR
 have ecW2 := hcW2.hl; subst ecW2
 refine W.seq_k fun _ k6 => W.regionT [(0, false), (1, false)] (by kernel_rfl) ?_
 refine Plan.boxA HST rfl rfl PIn.nil fun b7 w7 hb7 h7 => ?_
 simp only [rngs, Nat.zero_add, Nat.reduceAdd, zca, zna] at h7
 refine Plan.alloc h7 rfl FRef04.z27 PIn.nil fun b8 w8 hb8 h8 => ?_
 simp only [rngs, Nat.zero_add, Nat.reduceAdd, zca, zna] at h8
 refine Plan.nil (k6 _ _ ?_); clear k6
 refine W.seq_k fun _ k9 => W.regionT [(0, true), (1, true), (2, false), (3, false)] (by kernel_rfl) ?_
 refine Plan.move_ptr rfl rfl <| Plan.loadA1 h8 1 rfl rfl rfl FRef04.agg27 ?_
 have h10 := St.pickT (C := [_, _, _, _, _]) h8 [2, 3, 4, 0, 1] (by decide)
 simp only [pick, zfc, zfn, zgz, zgs, zca, zna] at h10
 obtain ⟨x_12, hr11, hR⟩ := hR
 refine Plan.call (vs := [.pointer (some ⟨bc1, 0, none⟩), AG [(16, fun q => VU .u8 (b5 q))], VN 0]) rfl FRef04.call42 rfl (letheref04_Cipher_add_ok (by exact (hcW2.app [_, _])) hr11 h10) ?_
 rintro _ w13 ⟨rfl, h13⟩
 refine ⟨_, rfl, .inr ⟨rfl, ?_⟩⟩
 refine Plan.storeA (f' := fun q => VU .u8 (x_12 q)) h13 4 rfl rfl rfl rfl (fun _ _ => rfl) FRef04.sz27 rfl fun w14 h14 => ?_
 simp only [zca, zna, zsz, zss] at h14
 refine Plan.nil (k9 _ _ ?_); clear k9
 refine W.seq_k fun _ k15 => W.seq_k fun _ k16 => ?_
 refine W.regionT [(0, true)] (by kernel_rfl) ?_
 refine Plan.assign_int rfl rfl <| Plan.nil (k16 _ _ ?_); clear k16
 obtain ⟨m152, hI153, hR0153⟩ := hR
 refine W.cutN (fun e w => ∃ y_m152 : Nat → BitVec 8, m152 = y_m152 ∧ EnvHas e [(3, .pointer (some ⟨b7, 0, none⟩)), (4, .pointer (some ⟨b8, 0, none⟩))] ∧ St B w0 (⟨some bc1, 0, 1, fun _ => .slice acW2 cW2.length ccW2, true⟩ :: ⟨some bc1, 1, 256, fun q => VU .u8 (cs3 q), true⟩ :: ⟨some bc1, 257, 256, fun q => VU .u8 (cu4 q), true⟩ :: ⟨some b8, 0, 16, fun q => VU .u8 ((fun _ => 0#8) q), true⟩ :: ⟨some b7, 0, 16, fun q => VU .u8 (y_m152 q), true⟩ :: L) w) ?_ ?_
 ·
  refine W.block ?_
  refine W.iter hI153 (fun (s153 : (Nat × (Nat → BitVec 8))) e w => EnvHas e [(0, .pointer (some ⟨bc1, 0, none⟩)), (3, .pointer (some ⟨b7, 0, none⟩)), (4, .pointer (some ⟨b8, 0, none⟩)), (5, VN s153.1)] ∧ St B w0 (⟨some bc1, 0, 1, fun _ => .slice acW2 cW2.length ccW2, true⟩ :: ⟨some bc1, 1, 256, fun q => VU .u8 (cs3 q), true⟩ :: ⟨some bc1, 257, 256, fun q => VU .u8 (cu4 q), true⟩ :: ⟨some b8, 0, 16, fun q => VU .u8 ((fun _ => 0#8) q), true⟩ :: ⟨some b7, 0, 16, fun q => VU .u8 (s153.2 q), true⟩ :: L) w) ⟨(zer (zer (zer (zer zen)))), h14⟩ ?_
  rintro ⟨r_150, m151⟩ o153 hR hx153 ev154 wl154 ⟨he154, h154⟩
  obtain ⟨ev154, rfl⟩ := he154.open
  unfold letheref04_Cipher_Encrypt_l0 at hR
  refine W.seq_k fun _ k155 => W.seq_k fun _ k156 => ?_
  refine W.regionT [(0, true), (1, true), (2, false), (3, true)] (by kernel_rfl) ?_
  refine Plan.move_int rfl rfl <| Plan.move_ptr rfl rfl ?_
  obtain ⟨x_158, hr157, hR⟩ := hR
  refine Plan.call (vs := [.pointer (some ⟨bc1, 0, none⟩)]) rfl FRef04.call43 rfl (letheref04_Cipher_rounds_ok (by exact (hcW2.app [_, _])) hr157 h154) ?_
  rintro _ w159 ⟨rfl, h159⟩
  refine ⟨_, rfl, .inl ⟨PIn.keep PIn.nil h159, ?_⟩⟩
  refine Plan.cmpP (a := (((r_150 : Nat) : Int) : Int)) (b := (x_158 : Int)) (p := ((r_150 : Nat) : Int) ≤ x_158) rfl rfl rfl rfl icmp_le <| Plan.nil (k156 _ _ ?_); clear k156
  by_cases hc160 : ((r_150 : Nat) : Int) ≤ x_158
  ·
   replace hR := ifT hR hc160
   refine W.condT (congrArg Value.bool (decide_eq_true hc160)) ?_
   refine W.skip ?_
   refine k155 _ _ ?_; clear k155
   refine W.seq_k fun _ k161 => ?_
   refine W.block ?_
   refine W.seq_k fun _ k162 => W.seq_k fun _ k163 => ?_
   refine W.regionT [(0, true)] (by kernel_rfl) ?_
   refine Plan.assign_int rfl rfl <| Plan.nil (k163 _ _ ?_); clear k163
   obtain ⟨m179, hI180, hR0180⟩ := hR
   refine W.cutN (fun e w => ∃ y_m179 : Nat → BitVec 8, m179 = y_m179 ∧ EnvHas e [(0, .pointer (some ⟨bc1, 0, none⟩)), (3, .pointer (some ⟨b7, 0, none⟩)), (4, .pointer (some ⟨b8, 0, none⟩)), (5, VN r_150)] ∧ St B w0 (⟨some bc1, 0, 1, fun _ => .slice acW2 cW2.length ccW2, true⟩ :: ⟨some bc1, 1, 256, fun q => VU .u8 (cs3 q), true⟩ :: ⟨some bc1, 257, 256, fun q => VU .u8 (cu4 q), true⟩ :: ⟨some b8, 0, 16, fun q => VU .u8 ((fun _ => 0#8) q), true⟩ :: ⟨some b7, 0, 16, fun q => VU .u8 (y_m179 q), true⟩ :: L) w) ?_ ?_
   ·
    refine W.block ?_
    refine W.iter hI180 (fun (s180 : (Nat × (Nat → BitVec 8))) e w => EnvHas e [(0, .pointer (some ⟨bc1, 0, none⟩)), (3, .pointer (some ⟨b7, 0, none⟩)), (4, .pointer (some ⟨b8, 0, none⟩)), (5, VN r_150), (6, VN s180.1)] ∧ St B w0 (⟨some bc1, 0, 1, fun _ => .slice acW2 cW2.length ccW2, true⟩ :: ⟨some bc1, 1, 256, fun q => VU .u8 (cs3 q), true⟩ :: ⟨some bc1, 257, 256, fun q => VU .u8 (cu4 q), true⟩ :: ⟨some b8, 0, 16, fun q => VU .u8 ((fun _ => 0#8) q), true⟩ :: ⟨some b7, 0, 16, fun q => VU .u8 (s180.2 q), true⟩ :: L) w) ⟨(zer (zer (zer (zer (zer zen))))), h159⟩ ?_
    rintro ⟨i_177, m178⟩ o180 hR hx180 ev181 wl181 ⟨he181, h181⟩
    obtain ⟨ev181, rfl⟩ := he181.open
    unfold letheref04_Cipher_Encrypt_l1 at hR
    refine W.seq_k fun _ k182 => W.seq_k fun _ k183 => ?_
    refine W.regionT [(0, true), (1, true)] (by kernel_rfl) ?_
    refine Plan.move_int rfl rfl <| Plan.cmpP (a := (((i_177 : Nat) : Int) : Int)) (b := (16 : Int)) (p := i_177 < 16) rfl rfl rfl rfl icmp_ltN <| Plan.nil (k183 _ _ ?_); clear k183
    by_cases hc184 : i_177 < 16
    ·
     replace hR := ifT hR hc184
     refine W.condT (congrArg Value.bool (decide_eq_true hc184)) ?_
     refine W.skip ?_
     refine k182 _ _ ?_; clear k182
     refine W.seq_k fun _ k185 => ?_
     refine W.block ?_
     refine W.regionD FRef04.mixed [(0, true), (1, true), (2, true), (3, true), (4, true), (5, true), (6, true), (7, true), (8, true), (9, true), (10, false)] (by kernel_rfl) ?_
     have h186 := h181.drew
     refine Plan.move_int rfl rfl <| Plan.move_ptr rfl rfl <| Plan.move_int rfl rfl <| Plan.idxArr1 (j := i_177) FRef04.arr27 rfl rfl rfl (by omega) <| Plan.load1 (j := i_177) h186 4 rfl rfl rfl (by omega) FRef04.sc5 <| Plan.nilCheck rfl rfl <| Plan.fieldAddr 1 FRef04.fld84_1 rfl rfl <| Plan.idxArr1 (j := (m178 i_177).toNat) FRef04.arr59 rfl rfl rfl (m178 i_177).isLt ?_
     refine Plan.load1 (j := (m178 i_177).toNat) h186 1 rfl rfl rfl (by first | omega | exact (m178 i_177).isLt) FRef04.sc5 <| Plan.idxArr1 (j := i_177) FRef04.arr27 rfl rfl rfl (by omega) ?_
     refine Plan.storeU (j := i_177) (X := (cs3 ((m178 i_177).toNat))) h186 4 rfl rfl rfl rfl (by omega) FRef04.sz5 rfl fun w187 h187 => ?_
     simp only [zca, zna, zsz, zss] at h187
     refine Plan.nil ?_
     refine blockR_norm ?_
     refine k185 _ _ ?_; clear k185
     refine W.regionT [(0, true), (1, true), (2, true)] (by kernel_rfl) ?_
     refine Plan.move_int rfl rfl <| Plan.addN (a := i_177) (b := 1) rfl rfl rfl (by omega) <| Plan.assign_int rfl rfl <| Plan.nil ?_
     exact iterR_norm ⟨_, hR, (zer (zer (zer (zer (zer zen))))), h187⟩
    ·
     replace hR := ifF hR hc184
     refine W.condF (congrArg Value.bool (decide_eq_false hc184)) ?_
     refine W.exit (thenR_exit (iterR_exit (blockR_here ?_)))
     exact ⟨m178, (hx180 _ hR).symm, (zer (zer (zer (zer zen)))), h181⟩
   ·
    rintro ev188 wl188 ⟨y_m179, hy188, he188, h188⟩
    obtain ⟨ev188, rfl⟩ := he188.open
    subst hy188
    replace hR := hR0180
    refine k162 _ _ ?_; clear k162
    refine W.seq_k fun _ k189 => W.regionT [(0, true), (1, false), (2, false)] (by kernel_rfl) ?_
    refine Plan.loadA1 h188 4 rfl rfl rfl FRef04.agg27 ?_
    obtain ⟨x_191, hr190, hR⟩ := hR
    refine Plan.call (vs := [AG [(16, fun q => VU .u8 (m179 q))], VN 1]) rfl FRef04.call44 rfl (letheref04_turned_ok  hr190 h188) ?_
    rintro _ w192 ⟨rfl, h192⟩
    refine ⟨_, rfl, .inr ⟨rfl, ?_⟩⟩
    refine Plan.storeA (f' := fun q => VU .u8 (x_191 q)) h192 4 rfl rfl rfl rfl (fun _ _ => rfl) FRef04.sz27 rfl fun w193 h193 => ?_
    simp only [zca, zna, zsz, zss] at h193
    refine Plan.nil (k189 _ _ ?_); clear k189
    refine W.seq_k fun _ k194 => ?_
    obtain ⟨m204, hX205, hR0205⟩ := hR
    refine W.cutN (fun e w => ∃ y_m204 : Nat → BitVec 8, (m204 = y_m204) ∧ EnvHas e [(0, .pointer (some ⟨bc1, 0, none⟩)), (3, .pointer (some ⟨b7, 0, none⟩)), (4, .pointer (some ⟨b8, 0, none⟩)), (5, VN r_150)] ∧ St B w0 (⟨some bc1, 0, 1, fun _ => .slice acW2 cW2.length ccW2, true⟩ :: ⟨some bc1, 1, 256, fun q => VU .u8 (cs3 q), true⟩ :: ⟨some bc1, 257, 256, fun q => VU .u8 (cu4 q), true⟩ :: ⟨some b8, 0, 16, fun q => VU .u8 ((fun _ => 0#8) q), true⟩ :: ⟨some b7, 0, 16, fun q => VU .u8 (y_m204 q), true⟩ :: L) w) ?_ ?_
    ·
     replace hR := hX205
     refine W.seq_k fun _ k206 => W.regionT [(0, true), (1, true), (2, false), (3, true)] (by kernel_rfl) ?_
     refine Plan.move_int rfl rfl <| Plan.move_ptr rfl rfl ?_
     obtain ⟨x_208, hr207, hR⟩ := hR
     refine Plan.call (vs := [.pointer (some ⟨bc1, 0, none⟩)]) rfl FRef04.call43 rfl (letheref04_Cipher_rounds_ok (by exact (hcW2.app [_, _])) hr207 h193) ?_
     rintro _ w209 ⟨rfl, h209⟩
     refine ⟨_, rfl, .inl ⟨PIn.keep PIn.nil h209, ?_⟩⟩
     refine Plan.cmpP (a := (((r_150 : Nat) : Int) : Int)) (b := (x_208 : Int)) (p := ((r_150 : Nat) : Int) < x_208) rfl rfl rfl rfl icmp_lt <| Plan.nil (k206 _ _ ?_); clear k206
     by_cases hc210 : ((r_150 : Nat) : Int) < x_208
     ·
      replace hR := ifT hR hc210
      refine W.condT (congrArg Value.bool (decide_eq_true hc210)) ?_
      refine W.regionT [(0, true), (1, false), (2, false)] (by kernel_rfl) ?_
      refine Plan.loadA1 h209 4 rfl rfl rfl FRef04.agg27 ?_
      obtain ⟨x_212, hr211, hR⟩ := hR
      refine Plan.call (vs := [AG [(16, fun q => VU .u8 (x_191 q))]]) rfl FRef04.call45 rfl (letheref04_mixed_ok  hr211 h209) ?_
      rintro _ w213 ⟨rfl, h213⟩
      refine ⟨_, rfl, .inr ⟨rfl, ?_⟩⟩
      refine Plan.storeA (f' := fun q => VU .u8 (x_212 q)) h213 4 rfl rfl rfl rfl (fun _ _ => rfl) FRef04.sz27 rfl fun w214 h214 => ?_
      simp only [zca, zna, zsz, zss] at h214
      refine Plan.nil ?_
      exact ⟨x_212, hR, (zer (zer (zer (zer zen)))), h214⟩
     ·
      replace hR := ifF hR hc210
      refine W.condF (congrArg Value.bool (decide_eq_false hc210)) ?_
      refine W.skip ?_
      exact ⟨x_191, hR, (zer (zer (zer (zer zen)))), h209⟩
    ·
     rintro ev215 wl215 ⟨y_m204, hy215_0, he215, h215⟩
     subst hy215_0
     obtain ⟨ev215, rfl⟩ := he215.open
     replace hR := hR0205
     refine k194 _ _ ?_; clear k194
     refine W.regionT [(0, true), (1, true), (2, true), (3, false), (4, false)] (by kernel_rfl) ?_
     refine Plan.move_ptr rfl rfl <| Plan.loadA1 h215 4 rfl rfl rfl FRef04.agg27 <| Plan.move_int rfl rfl ?_
     obtain ⟨x_217, hr216, hR⟩ := hR
     refine Plan.call (vs := [.pointer (some ⟨bc1, 0, none⟩), AG [(16, fun q => VU .u8 (m204 q))], VN r_150]) rfl FRef04.call42 rfl (letheref04_Cipher_add_ok (by exact (hcW2.app [_, _])) hr216 h215) ?_
     rintro _ w218 ⟨rfl, h218⟩
     refine ⟨_, rfl, .inr ⟨rfl, ?_⟩⟩
     refine Plan.storeA (f' := fun q => VU .u8 (x_217 q)) h218 4 rfl rfl rfl rfl (fun _ _ => rfl) FRef04.sz27 rfl fun w219 h219 => ?_
     simp only [zca, zna, zsz, zss] at h219
     refine Plan.nil ?_
     refine blockR_norm ?_
     refine k161 _ _ ?_; clear k161
     refine W.regionT [(0, true), (1, true), (2, true)] (by kernel_rfl) ?_
     refine Plan.move_int rfl rfl ?_
     obtain ⟨hc220, hR⟩ := hR
     refine Plan.addN (a := r_150) (b := 1) rfl rfl rfl (by omega) <| Plan.assign_int rfl rfl <| Plan.nil ?_
     exact iterR_norm ⟨_, hR, (zer (zer (zer (zer zen)))), h219⟩
  ·
   replace hR := ifF hR hc160
   refine W.condF (congrArg Value.bool (decide_eq_false hc160)) ?_
   refine W.exit (thenR_exit (iterR_exit (blockR_here ?_)))
   exact ⟨m151, (hx153 _ hR).symm, (zer (zer zen)), h159⟩
 ·
  rintro ev221 wl221 ⟨y_m152, hy221, he221, h221⟩
  obtain ⟨ev221, rfl⟩ := he221.open
  subst hy221
  replace hR := hR0153
  refine k15 _ _ ?_; clear k15
  refine W.seq_k fun _ k222 => W.regionT [(0, true), (1, false)] (by kernel_rfl) ?_
  refine Plan.loadA1 h221 4 rfl rfl rfl FRef04.agg27 ?_
  refine Plan.storeA (f' := fun q => VU .u8 (m152 q)) h221 3 rfl rfl rfl rfl (fun _ _ => rfl) FRef04.sz27 rfl fun w223 h223 => ?_
  simp only [zca, zna, zsz, zss] at h223
  refine Plan.nil (k222 _ _ ?_); clear k222
  refine W.ret (finR_ret ?_)
  have h224 := St.pickT (C := [_, _, _, _, _]) h223 [0, 1, 2] (by decide)
  simp only [pick, zfc, zfn, zgz, zgs, zca, zna] at h224
  subst r
  refine RetOk.mk (.agg h223 rfl (.cons 3 rfl .nil) FRef04.agg27 .nil) ?_
  exact ⟨rfl, h224⟩
theorem letheref04_Cipher_Decrypt_ok {B : Nat} {w0 w : World} {L : List Rg} {bc1 : Nat} {cW2 : List (Nat → BitVec 8)} {acW2 : Option Addr} {ncW2 ccW2 icW2 : Nat} (hcW2 : LV D76 L icW2 acW2 ncW2 ccW2 cW2) {cs3 : Nat → BitVec 8} {cu4 : Nat → BitVec 8} {b5 : Nat → BitVec 8} {r : (Nat → BitVec 8)} (hR : letheref04_Cipher_Decrypt cW2 cs3 cu4 b5 r) (HST : St B w0 (⟨some bc1, 0, 1, fun _ => .slice acW2 ncW2 ccW2, true⟩ :: ⟨some bc1, 1, 256, fun q => VU .u8 (cs3 q), true⟩ :: ⟨some bc1, 257, 256, fun q => VU .u8 (cu4 q), true⟩ :: L) w) :
  Calls Try.prog 35 #[.pointer (some ⟨bc1, 0, none⟩), AG [(16, fun q => VU .u8 (b5 q))]] w fun e w' => e = .returned (AG [(16, fun q => VU .u8 (r q))]) ∧ St B w0 (⟨some bc1, 0, 1, fun _ => .slice acW2 ncW2 ccW2, true⟩ :: ⟨some bc1, 1, 256, fun q => VU .u8 (cs3 q), true⟩ :: ⟨some bc1, 257, 256, fun q => VU .u8 (cu4 q), true⟩ :: L) w' := by
 refine W.enter 44 Try.func35 rfl rfl rfl ?_
 unfold letheref04_Cipher_Decrypt at hR
 have ecW2 := hcW2.hl; subst ecW2
 refine W.seq_k fun _ k6 => W.regionT [(0, false), (1, false)] (by kernel_rfl) ?_
 refine Plan.boxA HST rfl rfl PIn.nil fun b7 w7 hb7 h7 => ?_
 simp only [rngs, Nat.zero_add, Nat.reduceAdd, zca, zna] at h7
 refine Plan.alloc h7 rfl FRef04.z27 PIn.nil fun b8 w8 hb8 h8 => ?_
 simp only [rngs, Nat.zero_add, Nat.reduceAdd, zca, zna] at h8
 refine Plan.nil (k6 _ _ ?_); clear k6
 refine W.seq_k fun _ k9 => W.seq_k fun _ k10 => ?_
 refine W.regionT [(0, true), (1, false), (2, true)] (by kernel_rfl) ?_
 refine Plan.move_ptr rfl rfl ?_
 have h11 := St.pickT (C := [_, _, _, _, _]) h8 [2, 3, 4, 0, 1] (by decide)
 simp only [pick, zfc, zfn, zgz, zgs, zca, zna] at h11
 obtain ⟨x_13, hr12, hR⟩ := hR
 refine Plan.call (vs := [.pointer (some ⟨bc1, 0, none⟩)]) rfl FRef04.call43 rfl (letheref04_Cipher_rounds_ok (by exact (hcW2.app [_, _])) hr12 h11) ?_
 rintro _ w14 ⟨rfl, h14⟩
 refine ⟨_, rfl, .inl ⟨PIn.keep PIn.nil h14, ?_⟩⟩
 refine Plan.assign_int rfl rfl <| Plan.nil (k10 _ _ ?_); clear k10
 obtain ⟨m169, hI170, hR0170⟩ := hR
 refine W.cutN (fun e w => ∃ y_m169 : Nat → BitVec 8, m169 = y_m169 ∧ EnvHas e [(0, .pointer (some ⟨bc1, 0, none⟩)), (3, .pointer (some ⟨b7, 0, none⟩)), (4, .pointer (some ⟨b8, 0, none⟩))] ∧ St B w0 (⟨some bc1, 0, 1, fun _ => .slice acW2 cW2.length ccW2, true⟩ :: ⟨some bc1, 1, 256, fun q => VU .u8 (cs3 q), true⟩ :: ⟨some bc1, 257, 256, fun q => VU .u8 (cu4 q), true⟩ :: ⟨some b8, 0, 16, fun q => VU .u8 ((fun _ => 0#8) q), true⟩ :: ⟨some b7, 0, 16, fun q => VU .u8 (y_m169 q), true⟩ :: L) w) ?_ ?_
 ·
  refine W.block ?_
  refine W.iter hI170 (fun (s170 : (Int × (Nat → BitVec 8))) e w => EnvHas e [(0, .pointer (some ⟨bc1, 0, none⟩)), (3, .pointer (some ⟨b7, 0, none⟩)), (4, .pointer (some ⟨b8, 0, none⟩)), (5, .int .i64 s170.1)] ∧ St B w0 (⟨some bc1, 0, 1, fun _ => .slice acW2 cW2.length ccW2, true⟩ :: ⟨some bc1, 1, 256, fun q => VU .u8 (cs3 q), true⟩ :: ⟨some bc1, 257, 256, fun q => VU .u8 (cu4 q), true⟩ :: ⟨some b8, 0, 16, fun q => VU .u8 ((fun _ => 0#8) q), true⟩ :: ⟨some b7, 0, 16, fun q => VU .u8 (s170.2 q), true⟩ :: L) w) ⟨(zer (zer (zer (zer zen)))), h14⟩ ?_
  rintro ⟨r_167, m168⟩ o170 hR hx170 ev171 wl171 ⟨he171, h171⟩
  obtain ⟨ev171, rfl⟩ := he171.open
  unfold letheref04_Cipher_Decrypt_l0 at hR
  refine W.seq_k fun _ k172 => W.seq_k fun _ k173 => ?_
  refine W.regionT [(0, true), (1, true)] (by kernel_rfl) ?_
  refine Plan.move_int rfl rfl <| Plan.cmpP (a := (r_167 : Int)) (b := (1 : Int)) (p := 1 ≤ r_167) rfl rfl rfl rfl icmp_ge <| Plan.nil (k173 _ _ ?_); clear k173
  by_cases hc174 : 1 ≤ r_167
  ·
   replace hR := ifT hR hc174
   refine W.condT (congrArg Value.bool (decide_eq_true hc174)) ?_
   refine W.skip ?_
   refine k172 _ _ ?_; clear k172
   refine W.seq_k fun _ k175 => ?_
   refine W.block ?_
   refine W.seq_k fun _ k176 => W.regionT [(0, true), (1, true), (2, true), (3, false), (4, false)] (by kernel_rfl) ?_
   refine Plan.move_ptr rfl rfl <| Plan.loadA1 h171 4 rfl rfl rfl FRef04.agg27 <| Plan.move_int rfl rfl ?_
   obtain ⟨x_178, hr177, hR⟩ := hR
   refine Plan.call (vs := [.pointer (some ⟨bc1, 0, none⟩), AG [(16, fun q => VU .u8 (m168 q))], .int .i64 r_167]) rfl FRef04.call42 rfl (letheref04_Cipher_add_ok (by exact (hcW2.app [_, _])) hr177 h171) ?_
   rintro _ w179 ⟨rfl, h179⟩
   refine ⟨_, rfl, .inr ⟨rfl, ?_⟩⟩
   refine Plan.storeA (f' := fun q => VU .u8 (x_178 q)) h179 4 rfl rfl rfl rfl (fun _ _ => rfl) FRef04.sz27 rfl fun w180 h180 => ?_
   simp only [zca, zna, zsz, zss] at h180
   refine Plan.nil (k176 _ _ ?_); clear k176
   refine W.seq_k fun _ k181 => ?_
   obtain ⟨m197, hX198, hR0198⟩ := hR
   refine W.cutN (fun e w => ∃ y_m197 : Nat → BitVec 8, (m197 = y_m197) ∧ EnvHas e [(0, .pointer (some ⟨bc1, 0, none⟩)), (3, .pointer (some ⟨b7, 0, none⟩)), (4, .pointer (some ⟨b8, 0, none⟩)), (5, .int .i64 r_167)] ∧ St B w0 (⟨some bc1, 0, 1, fun _ => .slice acW2 cW2.length ccW2, true⟩ :: ⟨some bc1, 1, 256, fun q => VU .u8 (cs3 q), true⟩ :: ⟨some bc1, 257, 256, fun q => VU .u8 (cu4 q), true⟩ :: ⟨some b8, 0, 16, fun q => VU .u8 ((fun _ => 0#8) q), true⟩ :: ⟨some b7, 0, 16, fun q => VU .u8 (y_m197 q), true⟩ :: L) w) ?_ ?_
   ·
    replace hR := hX198
    refine W.seq_k fun _ k199 => W.regionT [(0, true), (1, true), (2, false), (3, true)] (by kernel_rfl) ?_
    refine Plan.move_int rfl rfl <| Plan.move_ptr rfl rfl ?_
    obtain ⟨x_201, hr200, hR⟩ := hR
    refine Plan.call (vs := [.pointer (some ⟨bc1, 0, none⟩)]) rfl FRef04.call43 rfl (letheref04_Cipher_rounds_ok (by exact (hcW2.app [_, _])) hr200 h180) ?_
    rintro _ w202 ⟨rfl, h202⟩
    refine ⟨_, rfl, .inl ⟨PIn.keep PIn.nil h202, ?_⟩⟩
    refine Plan.cmpP (a := (r_167 : Int)) (b := (x_201 : Int)) (p := r_167 < x_201) rfl rfl rfl rfl icmp_lt <| Plan.nil (k199 _ _ ?_); clear k199
    by_cases hc203 : r_167 < x_201
    ·
     replace hR := ifT hR hc203
     refine W.condT (congrArg Value.bool (decide_eq_true hc203)) ?_
     refine W.regionT [(0, true), (1, false), (2, false), (3, false), (4, false)] (by kernel_rfl) ?_
     refine Plan.loadA1 h202 4 rfl rfl rfl FRef04.agg27 ?_
     obtain ⟨x_205, hr204, hR⟩ := hR
     refine Plan.call (vs := [AG [(16, fun q => VU .u8 (x_178 q))]]) rfl FRef04.call45 rfl (letheref04_mixed_ok  hr204 h202) ?_
     rintro _ w206 ⟨rfl, h206⟩
     refine ⟨_, rfl, .inr ⟨rfl, ?_⟩⟩
     obtain ⟨x_208, hr207, hR⟩ := hR
     refine Plan.call (vs := [AG [(16, fun q => VU .u8 (x_205 q))]]) rfl FRef04.call45 rfl (letheref04_mixed_ok  hr207 h206) ?_
     rintro _ w209 ⟨rfl, h209⟩
     refine ⟨_, rfl, .inl ⟨PIn.keep PIn.nil h209, ?_⟩⟩
     obtain ⟨x_211, hr210, hR⟩ := hR
     refine Plan.call (vs := [AG [(16, fun q => VU .u8 (x_208 q))]]) rfl FRef04.call45 rfl (letheref04_mixed_ok  hr210 h209) ?_
     rintro _ w212 ⟨rfl, h212⟩
     refine ⟨_, rfl, .inl ⟨PIn.keep PIn.nil h212, ?_⟩⟩
     refine Plan.storeA (f' := fun q => VU .u8 (x_211 q)) h212 4 rfl rfl rfl rfl (fun _ _ => rfl) FRef04.sz27 rfl fun w213 h213 => ?_
     simp only [zca, zna, zsz, zss] at h213
     refine Plan.nil ?_
     exact ⟨x_211, hR, (zer (zer (zer (zer zen)))), h213⟩
    ·
     replace hR := ifF hR hc203
     refine W.condF (congrArg Value.bool (decide_eq_false hc203)) ?_
     refine W.skip ?_
     exact ⟨x_178, hR, (zer (zer (zer (zer zen)))), h202⟩
   ·
    rintro ev214 wl214 ⟨y_m197, hy214_0, he214, h214⟩
    subst hy214_0
    obtain ⟨ev214, rfl⟩ := he214.open
    replace hR := hR0198
    refine k181 _ _ ?_; clear k181
    refine W.seq_k fun _ k215 => W.regionT [(0, true), (1, false), (2, false)] (by kernel_rfl) ?_
    refine Plan.loadA1 h214 4 rfl rfl rfl FRef04.agg27 ?_
    obtain ⟨x_217, hr216, hR⟩ := hR
    refine Plan.call (vs := [AG [(16, fun q => VU .u8 (m197 q))], VN 3]) rfl FRef04.call44 rfl (letheref04_turned_ok  hr216 h214) ?_
    rintro _ w218 ⟨rfl, h218⟩
    refine ⟨_, rfl, .inr ⟨rfl, ?_⟩⟩
    refine Plan.storeA (f' := fun q => VU .u8 (x_217 q)) h218 4 rfl rfl rfl rfl (fun _ _ => rfl) FRef04.sz27 rfl fun w219 h219 => ?_
    simp only [zca, zna, zsz, zss] at h219
    refine Plan.nil (k215 _ _ ?_); clear k215
    refine W.seq_k fun _ k220 => W.regionT [(0, true)] (by kernel_rfl) ?_
    refine Plan.assign_int rfl rfl <| Plan.nil (k220 _ _ ?_); clear k220
    obtain ⟨m236, hI237, hR0237⟩ := hR
    refine W.cutN (fun e w => ∃ y_m236 : Nat → BitVec 8, m236 = y_m236 ∧ EnvHas e [(0, .pointer (some ⟨bc1, 0, none⟩)), (3, .pointer (some ⟨b7, 0, none⟩)), (4, .pointer (some ⟨b8, 0, none⟩)), (5, .int .i64 r_167)] ∧ St B w0 (⟨some bc1, 0, 1, fun _ => .slice acW2 cW2.length ccW2, true⟩ :: ⟨some bc1, 1, 256, fun q => VU .u8 (cs3 q), true⟩ :: ⟨some bc1, 257, 256, fun q => VU .u8 (cu4 q), true⟩ :: ⟨some b8, 0, 16, fun q => VU .u8 ((fun _ => 0#8) q), true⟩ :: ⟨some b7, 0, 16, fun q => VU .u8 (y_m236 q), true⟩ :: L) w) ?_ ?_
    ·
     refine W.block ?_
     refine W.iter hI237 (fun (s237 : (Nat × (Nat → BitVec 8))) e w => EnvHas e [(0, .pointer (some ⟨bc1, 0, none⟩)), (3, .pointer (some ⟨b7, 0, none⟩)), (4, .pointer (some ⟨b8, 0, none⟩)), (5, .int .i64 r_167), (6, VN s237.1)] ∧ St B w0 (⟨some bc1, 0, 1, fun _ => .slice acW2 cW2.length ccW2, true⟩ :: ⟨some bc1, 1, 256, fun q => VU .u8 (cs3 q), true⟩ :: ⟨some bc1, 257, 256, fun q => VU .u8 (cu4 q), true⟩ :: ⟨some b8, 0, 16, fun q => VU .u8 ((fun _ => 0#8) q), true⟩ :: ⟨some b7, 0, 16, fun q => VU .u8 (s237.2 q), true⟩ :: L) w) ⟨(zer (zer (zer (zer (zer zen))))), h219⟩ ?_
     rintro ⟨i_234, m235⟩ o237 hR hx237 ev238 wl238 ⟨he238, h238⟩
     obtain ⟨ev238, rfl⟩ := he238.open
     unfold letheref04_Cipher_Decrypt_l1 at hR
     refine W.seq_k fun _ k239 => W.seq_k fun _ k240 => ?_
     refine W.regionT [(0, true), (1, true)] (by kernel_rfl) ?_
     refine Plan.move_int rfl rfl <| Plan.cmpP (a := (((i_234 : Nat) : Int) : Int)) (b := (16 : Int)) (p := i_234 < 16) rfl rfl rfl rfl icmp_ltN <| Plan.nil (k240 _ _ ?_); clear k240
     by_cases hc241 : i_234 < 16
     ·
      replace hR := ifT hR hc241
      refine W.condT (congrArg Value.bool (decide_eq_true hc241)) ?_
      refine W.skip ?_
      refine k239 _ _ ?_; clear k239
      refine W.seq_k fun _ k242 => ?_
      refine W.block ?_
      refine W.regionD FRef04.mixed [(0, true), (1, true), (2, true), (3, true), (4, true), (5, true), (6, true), (7, true), (8, true), (9, true), (10, false)] (by kernel_rfl) ?_
      have h243 := h238.drew
      refine Plan.move_int rfl rfl <| Plan.move_ptr rfl rfl <| Plan.move_int rfl rfl <| Plan.idxArr1 (j := i_234) FRef04.arr27 rfl rfl rfl (by omega) <| Plan.load1 (j := i_234) h243 4 rfl rfl rfl (by omega) FRef04.sc5 <| Plan.nilCheck rfl rfl <| Plan.fieldAddr 257 FRef04.fld84_2 rfl rfl <| Plan.idxArr1 (j := (m235 i_234).toNat) FRef04.arr59 rfl rfl rfl (m235 i_234).isLt ?_
      refine Plan.load1 (j := (m235 i_234).toNat) h243 2 rfl rfl rfl (by first | omega | exact (m235 i_234).isLt) FRef04.sc5 <| Plan.idxArr1 (j := i_234) FRef04.arr27 rfl rfl rfl (by omega) ?_
      refine Plan.storeU (j := i_234) (X := (cu4 ((m235 i_234).toNat))) h243 4 rfl rfl rfl rfl (by omega) FRef04.sz5 rfl fun w244 h244 => ?_
      simp only [zca, zna, zsz, zss] at h244
      refine Plan.nil ?_
      refine blockR_norm ?_
      refine k242 _ _ ?_; clear k242
      refine W.regionT [(0, true), (1, true), (2, true)] (by kernel_rfl) ?_
      refine Plan.move_int rfl rfl <| Plan.addN (a := i_234) (b := 1) rfl rfl rfl (by omega) <| Plan.assign_int rfl rfl <| Plan.nil ?_
      exact iterR_norm ⟨_, hR, (zer (zer (zer (zer (zer zen))))), h244⟩
     ·
      replace hR := ifF hR hc241
      refine W.condF (congrArg Value.bool (decide_eq_false hc241)) ?_
      refine W.exit (thenR_exit (iterR_exit (blockR_here ?_)))
      exact ⟨m235, (hx237 _ hR).symm, (zer (zer (zer (zer zen)))), h238⟩
    ·
     rintro ev245 wl245 ⟨y_m236, hy245, he245, h245⟩
     obtain ⟨ev245, rfl⟩ := he245.open
     subst hy245
     replace hR := hR0237
     refine blockR_norm ?_
     refine k175 _ _ ?_; clear k175
     refine W.regionT [(0, true), (1, true), (2, true)] (by kernel_rfl) ?_
     refine Plan.move_int rfl rfl ?_
     obtain ⟨hc246, hR⟩ := hR
     refine Plan.subI (a := r_167) (b := 1) rfl rfl rfl (by omega) <| Plan.assign_int rfl rfl <| Plan.nil ?_
     exact iterR_norm ⟨_, hR, (zer (zer (zer (zer zen)))), h245⟩
  ·
   replace hR := ifF hR hc174
   refine W.condF (congrArg Value.bool (decide_eq_false hc174)) ?_
   refine W.exit (thenR_exit (iterR_exit (blockR_here ?_)))
   exact ⟨m168, (hx170 _ hR).symm, (zer (zer (zer zen))), h171⟩
 ·
  rintro ev247 wl247 ⟨y_m169, hy247, he247, h247⟩
  obtain ⟨ev247, rfl⟩ := he247.open
  subst hy247
  replace hR := hR0170
  refine k9 _ _ ?_; clear k9
  refine W.seq_k fun _ k248 => W.regionT [(0, true), (1, true), (2, false), (3, false)] (by kernel_rfl) ?_
  refine Plan.move_ptr rfl rfl <| Plan.loadA1 h247 4 rfl rfl rfl FRef04.agg27 ?_
  obtain ⟨x_250, hr249, hR⟩ := hR
  refine Plan.call (vs := [.pointer (some ⟨bc1, 0, none⟩), AG [(16, fun q => VU .u8 (m169 q))], VN 0]) rfl FRef04.call42 rfl (letheref04_Cipher_add_ok (by exact (hcW2.app [_, _])) hr249 h247) ?_
  rintro _ w251 ⟨rfl, h251⟩
  refine ⟨_, rfl, .inr ⟨rfl, ?_⟩⟩
  refine Plan.storeA (f' := fun q => VU .u8 (x_250 q)) h251 3 rfl rfl rfl rfl (fun _ _ => rfl) FRef04.sz27 rfl fun w252 h252 => ?_
  simp only [zca, zna, zsz, zss] at h252
  refine Plan.nil (k248 _ _ ?_); clear k248
  refine W.ret (finR_ret ?_)
  have h253 := St.pickT (C := [_, _, _, _, _]) h252 [0, 1, 2] (by decide)
  simp only [pick, zfc, zfn, zgz, zgs, zca, zna] at h253
  subst r
  refine RetOk.mk (.agg h252 rfl (.cons 3 rfl .nil) FRef04.agg27 .nil) ?_
  exact ⟨rfl, h253⟩
theorem letheref04_Cipher_Stream_ok {B : Nat} {w0 w : World} {L : List Rg} {bc1 : Nat} {cW2 : List (Nat → BitVec 8)} {acW2 : Option Addr} {ncW2 ccW2 icW2 : Nat} (hcW2 : LV D76 L icW2 acW2 ncW2 ccW2 cW2) {cs3 : Nat → BitVec 8} {cu4 : Nat → BitVec 8} {from_5 : Nat → BitVec 8} {n_6 : Int} {r : (List Byte)} (hR : letheref04_Cipher_Stream cW2 cs3 cu4 from_5 n_6 r) (HST : St B w0 (⟨some bc1, 0, 1, fun _ => .slice acW2 ncW2 ccW2, true⟩ :: ⟨some bc1, 1, 256, fun q => VU .u8 (cs3 q), true⟩ :: ⟨some bc1, 257, 256, fun q => VU .u8 (cu4 q), true⟩ :: L) w) :
  Calls Try.prog 46 #[.pointer (some ⟨bc1, 0, none⟩), AG [(16, fun q => VU .u8 (from_5 q))], .int .i64 n_6] w fun e w' => ∃ ay0 : Option Addr, ∃ py0 : Option Nat, ∃ ny0 : Nat, ∃ cy0 : Nat, ∃ Fy0 : Nat → Byte, e = .returned (.slice ay0 ny0 cy0) ∧ St B w0 (⟨py0, 0, cy0, fun q => VU .u8 (Fy0 q), true⟩ :: ⟨some bc1, 0, 1, fun _ => .slice acW2 ncW2 ccW2, true⟩ :: ⟨some bc1, 1, 256, fun q => VU .u8 (cs3 q), true⟩ :: ⟨some bc1, 257, 256, fun q => VU .u8 (cu4 q), true⟩ :: L) w' ∧ Ow ay0 py0 ny0 cy0 Fy0 r := by
 refine W.enter 36 Try.func46 rfl rfl rfl ?_
 unfold letheref04_Cipher_Stream at hR
 have ecW2 := hcW2.hl; subst ecW2
 refine W.seq_k fun _ k7 => W.regionT [(0, false), (1, true)] (by kernel_rfl) ?_
 refine Plan.boxA HST rfl rfl PIn.nil fun b8 w8 hb8 h8 => ?_
 simp only [rngs, Nat.zero_add, Nat.reduceAdd, zca, zna] at h8
 refine Plan.assign_slice rfl rfl <| Plan.nil (k7 _ _ ?_); clear k7
 refine W.seq_k fun _ k9 => W.regionT [(0, true)] (by kernel_rfl) ?_
 refine Plan.assign_slice rfl rfl <| Plan.nil (k9 _ _ ?_); clear k9
 refine W.seq_k fun _ k10 => ?_
 have h141 := h8.nilR
 obtain ⟨out139, hI140, hR0140⟩ := hR
 refine W.cutN (fun e w => ∃ y_out139 : List Byte, out139 = y_out139 ∧ ∃ aout139 : Option Addr, ∃ pout139 : Option Nat, ∃ cout139 : Nat, ∃ Fout139 : Nat → Byte, EnvHas e [(7, .slice aout139 y_out139.length cout139)] ∧ St B w0 (⟨pout139, 0, cout139, fun q => VU .u8 (Fout139 q), true⟩ :: ⟨some bc1, 0, 1, fun _ => .slice acW2 cW2.length ccW2, true⟩ :: ⟨some bc1, 1, 256, fun q => VU .u8 (cs3 q), true⟩ :: ⟨some bc1, 257, 256, fun q => VU .u8 (cu4 q), true⟩ :: L) w ∧ Ow aout139 pout139 y_out139.length cout139 Fout139 y_out139) ?_ ?_
 ·
  refine W.block ?_
  refine W.iter hI140 (fun (s140 : ((List Byte) × (Nat → BitVec 8))) e w => ∃ aout136 : Option Addr, ∃ pout136 : Option Nat, ∃ cout136 : Nat, ∃ Fout136 : Nat → Byte, EnvHas e [(0, .pointer (some ⟨bc1, 0, none⟩)), (2, .int .i64 n_6), (4, .pointer (some ⟨b8, 0, none⟩)), (7, .slice aout136 s140.1.length cout136)] ∧ St B w0 (⟨pout136, 0, cout136, fun q => VU .u8 (Fout136 q), true⟩ :: ⟨some b8, 0, 16, fun q => VU .u8 (s140.2 q), true⟩ :: ⟨some bc1, 0, 1, fun _ => .slice acW2 cW2.length ccW2, true⟩ :: ⟨some bc1, 1, 256, fun q => VU .u8 (cs3 q), true⟩ :: ⟨some bc1, 257, 256, fun q => VU .u8 (cu4 q), true⟩ :: L) w ∧ Ow aout136 pout136 s140.1.length cout136 Fout136 s140.1) ⟨none, none, 0, (fun _ => 0#8), (zer (zer (zer (zer zen)))), h141, Ow.nil⟩ ?_
  rintro ⟨out136, m138⟩ o140 hR hx140 ev142 wl142 ⟨aout136, pout136, cout136, Fout136, he142, h142, hout136⟩
  obtain ⟨ev142, rfl⟩ := he142.open
  unfold letheref04_Cipher_Stream_l0 at hR
  refine W.seq_k fun _ k143 => W.seq_k fun _ k144 => ?_
  refine W.regionT [(0, true), (1, true), (2, true), (3, true)] (by kernel_rfl) ?_
  refine Plan.move_slice rfl rfl <| Plan.len FRef04.isl28 rfl rfl <| Plan.move_int rfl rfl <| Plan.cmpP (a := (((out136.length : Nat) : Int) : Int)) (b := (n_6 : Int)) (p := ((out136.length : Nat) : Int) < n_6) rfl rfl rfl rfl icmp_lt <| Plan.nil (k144 _ _ ?_); clear k144
  by_cases hc145 : ((out136.length : Nat) : Int) < n_6
  ·
   replace hR := ifT hR hc145
   refine W.condT (congrArg Value.bool (decide_eq_true hc145)) ?_
   refine W.skip ?_
   refine k143 _ _ ?_; clear k143
   refine W.block ?_
   refine W.seq_k fun _ k146 => W.regionT [(0, true), (1, true), (2, false), (3, false), (4, false)] (by kernel_rfl) ?_
   refine Plan.move_ptr rfl rfl <| Plan.loadA1 h142 1 rfl rfl rfl FRef04.agg27 ?_
   have h147 := St.pickT (C := [_, _, _, _, _]) h142 [2, 3, 4, 0, 1] (by decide)
   simp only [pick, zfc, zfn, zgz, zgs, zca, zna] at h147
   obtain ⟨x_149, hr148, hR⟩ := hR
   refine Plan.call (vs := [.pointer (some ⟨bc1, 0, none⟩), AG [(16, fun q => VU .u8 (m138 q))]]) rfl FRef04.call34 rfl (letheref04_Cipher_Encrypt_ok (by exact (hcW2.app [_, _])) hr148 h147) ?_
   rintro _ w150 ⟨rfl, h150⟩
   refine ⟨_, rfl, .inr ⟨rfl, ?_⟩⟩
   refine Plan.alloc h150 rfl FRef04.z27 PIn.nil fun b151 w151 hb151 h151 => ?_
   simp only [rngs, Nat.zero_add, Nat.reduceAdd, zca, zna] at h151
   refine Plan.storeA (f' := fun q => VU .u8 (x_149 q)) h151 0 rfl rfl rfl rfl (fun _ _ => rfl) FRef04.sz27 rfl fun w152 h152 => ?_
   simp only [zca, zna, zsz, zss] at h152
   refine Plan.nil (k146 _ _ ?_); clear k146
   refine W.seq_k fun _ k153 => W.seq_k fun _ k154 => ?_
   refine W.regionT [(0, true)] (by kernel_rfl) ?_
   refine Plan.assign_int rfl rfl <| Plan.nil (k154 _ _ ?_); clear k154
   obtain ⟨out180, hI181, hR0181⟩ := hR
   refine W.cutN (fun e w => ∃ y_out180 : List Byte, out180 = y_out180 ∧ ∃ aout180 : Option Addr, ∃ pout180 : Option Nat, ∃ cout180 : Nat, ∃ Fout180 : Nat → Byte, EnvHas e [(0, .pointer (some ⟨bc1, 0, none⟩)), (2, .int .i64 n_6), (4, .pointer (some ⟨b8, 0, none⟩)), (7, .slice aout180 y_out180.length cout180)] ∧ St B w0 (⟨pout180, 0, cout180, fun q => VU .u8 (Fout180 q), true⟩ :: ⟨some bc1, 0, 1, fun _ => .slice acW2 cW2.length ccW2, true⟩ :: ⟨some bc1, 1, 256, fun q => VU .u8 (cs3 q), true⟩ :: ⟨some bc1, 257, 256, fun q => VU .u8 (cu4 q), true⟩ :: ⟨some b8, 0, 16, fun q => VU .u8 (m138 q), true⟩ :: L) w ∧ Ow aout180 pout180 y_out180.length cout180 Fout180 y_out180) ?_ ?_
   ·
    refine W.block ?_
    have h182 := St.pickT (C := [_, _, _, _, _, _]) h152 [4, 0, 1, 2, 3, 5] (by decide)
    simp only [pick, zfc, zfn, zgz, zgs, zca, zna] at h182
    refine W.iter hI181 (fun (s181 : ((List Byte) × Nat)) e w => ∃ aout178 : Option Addr, ∃ pout178 : Option Nat, ∃ cout178 : Nat, ∃ Fout178 : Nat → Byte, EnvHas e [(0, .pointer (some ⟨bc1, 0, none⟩)), (2, .int .i64 n_6), (4, .pointer (some ⟨b8, 0, none⟩)), (7, .slice aout178 s181.1.length cout178), (8, .pointer (some ⟨b151, 0, none⟩)), (9, VN s181.2)] ∧ St B w0 (⟨pout178, 0, cout178, fun q => VU .u8 (Fout178 q), true⟩ :: ⟨some b151, 0, 16, fun q => VU .u8 (x_149 q), true⟩ :: ⟨some bc1, 0, 1, fun _ => .slice acW2 cW2.length ccW2, true⟩ :: ⟨some bc1, 1, 256, fun q => VU .u8 (cs3 q), true⟩ :: ⟨some bc1, 257, 256, fun q => VU .u8 (cu4 q), true⟩ :: ⟨some b8, 0, 16, fun q => VU .u8 (m138 q), true⟩ :: L) w ∧ Ow aout178 pout178 s181.1.length cout178 Fout178 s181.1) ⟨aout136, pout136, cout136, Fout136, (zer (zer (zer (zer (zer (zer zen)))))), h182, hout136⟩ ?_
    rintro ⟨out178, i_179⟩ o181 hR hx181 ev183 wl183 ⟨aout178, pout178, cout178, Fout178, he183, h183, hout178⟩
    obtain ⟨ev183, rfl⟩ := he183.open
    unfold letheref04_Cipher_Stream_l1 at hR
    refine W.seq_k fun _ k184 => W.seq_k fun _ k188 => ?_
    refine W.regionT [(0, true), (1, true), (2, true), (3, true), (4, true), (5, true), (6, true), (7, true)] (by kernel_rfl) ?_
    refine Plan.move_int rfl rfl ?_
    by_cases hc189 : i_179 < 16
    ·
     replace hR := ifT hR hc189
     refine Plan.cmpV (a := (((i_179 : Nat) : Int) : Int)) (b := (16 : Int)) (p := i_179 < 16) (v := true) rfl rfl rfl rfl icmp_ltN (decide_eq_true hc189) <| Plan.move_bool rfl rfl <| Plan.move_slice rfl rfl <| Plan.len FRef04.isl28 rfl rfl <| Plan.move_int rfl rfl <| Plan.cmpP (a := (((out178.length : Nat) : Int) : Int)) (b := (n_6 : Int)) (p := ((out178.length : Nat) : Int) < n_6) rfl rfl rfl rfl icmp_lt <| Plan.pickTb rfl rfl rfl <| Plan.nil (k188 _ _ ?_); clear k188
     by_cases hc190 : ((out178.length : Nat) : Int) < n_6
     ·
      replace hR := ifT hR hc190
      refine W.condT (congrArg Value.bool (decide_eq_true hc190)) ?_
      refine W.skip ?_
      refine k184 _ _ ?_; clear k184
      refine W.seq_k fun _ k191 => ?_
      refine W.block ?_
      refine W.regionT [(0, true), (1, true), (2, true), (3, true), (4, false), (5, false), (6, true)] (by kernel_rfl) ?_
      refine Plan.move_slice rfl rfl <| Plan.move_int rfl rfl <| Plan.idxArr1 (j := i_179) FRef04.arr27 rfl rfl rfl (by omega) <| Plan.load1 (j := i_179) h183 1 rfl rfl rfl (by omega) FRef04.sc5 ?_
      refine Plan.buildSlice h183 (ps := [(1, fun q => VU .u8 (lit ([(x_149 i_179)] : List Byte) q))]) FRef04.slu28 FRef04.sz5 FRef04.zv5 (by decide) (by decide) rfl rfl rfl (EffO.wait rfl) fun b192 w192 hb192 h192 => ?_
      simp only [rngs, List.cons_append, List.nil_append] at h192
      have ho192 : Ow (some ⟨b192, 0, none⟩) (some b192) ([(x_149 i_179)] : List Byte).length 1 (lit ([(x_149 i_179)] : List Byte)) ([(x_149 i_179)] : List Byte) := ⟨.inr ⟨b192, rfl, rfl⟩, Nat.le_refl _, rfl, fun q _ => rfl⟩
      obtain ⟨hc194, hR⟩ := hR
      refine Plan.appendOK (X := out178) (Y := ([(x_149 i_179)] : List Byte)) h192 1 hout178 FRef04.el28 FRef04.sl28 rfl rfl rfl rfl (ho192.bx 0 rfl) hc194 (fun _ _ => EffO.keep PIn.nil) fun a193 pb193 cap193 F193 r193 iz193 w193 ho193 hi193 hv193 h193 => ?_
      simp only [zca, zna, zsz, zss] at h193 hv193
      refine Plan.assign_slice rfl rfl <| Plan.nil ?_
      refine blockR_norm ?_
      refine k191 _ _ ?_; clear k191
      refine W.regionT [(0, true), (1, true), (2, true)] (by kernel_rfl) ?_
      refine Plan.move_int rfl rfl <| Plan.addN (a := i_179) (b := 1) rfl rfl rfl (by omega) <| Plan.assign_int rfl rfl <| Plan.nil ?_
      have h195 := St.pickT (C := [_, _, _, _, _, _, _, _]) h193 [0, 3, 4, 5, 6, 7] (by decide)
      simp only [pick, zfc, zfn, zgz, zgs, zca, zna] at h195
      exact iterR_norm ⟨_, hR, a193, pb193, cap193, F193, (zer (zer (zer (zer (zer (zer zen)))))), h195, ho193⟩
     ·
      replace hR := ifF hR hc190
      refine W.condF (congrArg Value.bool (decide_eq_false hc190)) ?_
      refine W.exit (thenR_exit (iterR_exit (blockR_here ?_)))
      have h196 := St.pickT (C := [_, _, _, _, _, _]) h183 [0, 2, 3, 4, 5] (by decide)
      simp only [pick, zfc, zfn, zgz, zgs, zca, zna] at h196
      exact ⟨out178, (hx181 _ hR).symm, aout178, pout178, cout178, Fout178, (zer (zer (zer (zer zen)))), h196, hout178⟩
    ·
     replace hR := ifF hR hc189
     refine Plan.cmpV (a := (((i_179 : Nat) : Int) : Int)) (b := (16 : Int)) (p := i_179 < 16) (v := false) rfl rfl rfl rfl icmp_ltN (decide_eq_false hc189) <| Plan.move_bool rfl rfl <| Plan.passed rfl <| Plan.passed rfl <| Plan.passed rfl <| Plan.passed rfl <| Plan.pickFb rfl rfl rfl <| Plan.nil (k188 _ _ ?_); clear k188
     refine W.condF rfl ?_
     refine W.exit (thenR_exit (iterR_exit (blockR_here ?_)))
     have h197 := St.pickT (C := [_, _, _, _, _, _]) h183 [0, 2, 3, 4, 5] (by decide)
     simp only [pick, zfc, zfn, zgz, zgs, zca, zna] at h197
     exact ⟨out178, (hx181 _ hR).symm, aout178, pout178, cout178, Fout178, (zer (zer (zer (zer zen)))), h197, hout178⟩
   ·
    rintro ev198 wl198 ⟨y_out180, hy198, aout180, pout180, cout180, Fout180, he198, h198, hout180⟩
    obtain ⟨ev198, rfl⟩ := he198.open
    subst hy198
    replace hR := hR0181
    refine k153 _ _ ?_; clear k153
    refine W.regionT [(0, true), (1, false), (2, false)] (by kernel_rfl) ?_
    refine Plan.loadA1 h198 4 rfl rfl rfl FRef04.agg27 ?_
    obtain ⟨x_200, hr199, hR⟩ := hR
    refine Plan.call (vs := [AG [(16, fun q => VU .u8 (m138 q))], VU .u64 (1#64)]) rfl FRef04.call31 rfl (letheref04_Next_ok  hr199 h198) ?_
    rintro _ w201 ⟨rfl, h201⟩
    refine ⟨_, rfl, .inr ⟨rfl, ?_⟩⟩
    refine Plan.storeA (f' := fun q => VU .u8 (x_200 q)) h201 4 rfl rfl rfl rfl (fun _ _ => rfl) FRef04.sz27 rfl fun w202 h202 => ?_
    simp only [zca, zna, zsz, zss] at h202
    refine Plan.nil ?_
    refine blockR_norm ?_
    have h203 := St.pickT (C := [_, _, _, _, _]) h202 [0, 4, 1, 2, 3] (by decide)
    simp only [pick, zfc, zfn, zgz, zgs, zca, zna] at h203
    exact iterR_norm ⟨_, hR, aout180, pout180, cout180, Fout180, (zer (zer (zer (zer zen)))), h203, hout180⟩
  ·
   replace hR := ifF hR hc145
   refine W.condF (congrArg Value.bool (decide_eq_false hc145)) ?_
   refine W.exit (thenR_exit (iterR_exit (blockR_here ?_)))
   have h204 := St.pickT (C := [_, _, _, _, _]) h142 [0, 2, 3, 4] (by decide)
   simp only [pick, zfc, zfn, zgz, zgs, zca, zna] at h204
   exact ⟨out136, (hx140 _ hR).symm, aout136, pout136, cout136, Fout136, (zer zen), h204, hout136⟩
 ·
  rintro ev205 wl205 ⟨y_out139, hy205, aout139, pout139, cout139, Fout139, he205, h205, hout139⟩
  obtain ⟨ev205, rfl⟩ := he205.open
  subst hy205
  replace hR := hR0140
  refine k10 _ _ ?_; clear k10
  refine W.seq_k fun _ k206 => W.regionT [(0, true), (1, true)] (by kernel_rfl) ?_
  refine Plan.move_slice rfl rfl <| Plan.assign_slice rfl rfl <| Plan.nil (k206 _ _ ?_); clear k206
  refine W.ret (finR_ret ?_)
  subst r
  refine RetOk.mk (.tmp_slice rfl .nil) ?_
  exact ⟨aout139, pout139, out139.length, cout139, Fout139, rfl, h205, hout139⟩
theorem letheref04_Cipher_Hide_ok {B : Nat} {w0 w : World} {L : List Rg} {bc1 : Nat} {cW2 : List (Nat → BitVec 8)} {acW2 : Option Addr} {ncW2 ccW2 icW2 : Nat} (hcW2 : LV D76 L icW2 acW2 ncW2 ccW2 cW2) {cs3 : Nat → BitVec 8} {cu4 : Nat → BitVec 8} {from_5 : Nat → BitVec 8} {data6 : List Byte} {adata6 : Option Addr} {ndata6 cdata6 idata6 : Nat} (hdata6 : Bx L idata6 adata6 ndata6 cdata6 data6) {r : (List Byte)} (hR : letheref04_Cipher_Hide cW2 cs3 cu4 from_5 data6 r) (HST : St B w0 (⟨some bc1, 0, 1, fun _ => .slice acW2 ncW2 ccW2, true⟩ :: ⟨some bc1, 1, 256, fun q => VU .u8 (cs3 q), true⟩ :: ⟨some bc1, 257, 256, fun q => VU .u8 (cu4 q), true⟩ :: L) w) :
  Calls Try.prog 36 #[.pointer (some ⟨bc1, 0, none⟩), AG [(16, fun q => VU .u8 (from_5 q))], .slice adata6 ndata6 cdata6] w fun e w' => ∃ ay0 : Option Addr, ∃ py0 : Option Nat, ∃ ny0 : Nat, ∃ cy0 : Nat, ∃ Fy0 : Nat → Byte, e = .returned (.slice ay0 ny0 cy0) ∧ St B w0 (⟨py0, 0, cy0, fun q => VU .u8 (Fy0 q), true⟩ :: ⟨some bc1, 0, 1, fun _ => .slice acW2 ncW2 ccW2, true⟩ :: ⟨some bc1, 1, 256, fun q => VU .u8 (cs3 q), true⟩ :: ⟨some bc1, 257, 256, fun q => VU .u8 (cu4 q), true⟩ :: L) w' ∧ Ow ay0 py0 ny0 cy0 Fy0 r := by
 refine W.enter 33 Try.func36 rfl rfl rfl ?_
 unfold letheref04_Cipher_Hide at hR
 have ecW2 := hcW2.hl; subst ecW2
 have edata6 := hdata6.hl; subst edata6
 refine W.seq_k fun _ k7 => W.regionT [(0, false), (1, true)] (by kernel_rfl) ?_
 refine Plan.boxA HST rfl rfl PIn.nil fun b8 w8 hb8 h8 => ?_
 simp only [rngs, Nat.zero_add, Nat.reduceAdd, zca, zna] at h8
 refine Plan.assign_slice rfl rfl <| Plan.nil (k7 _ _ ?_); clear k7
 refine W.seq_k fun _ k9 => W.regionT [(0, true), (1, true), (2, true), (3, true), (4, false), (5, true)] (by kernel_rfl) ?_
 refine Plan.move_ptr rfl rfl <| Plan.loadA1 h8 0 rfl rfl rfl FRef04.agg27 <| Plan.move_slice rfl rfl <| Plan.len FRef04.isl28 rfl rfl ?_
 have h10 := St.pickT (C := [_, _, _, _]) h8 [1, 2, 3, 0] (by decide)
 simp only [pick, zfc, zfn, zgz, zgs, zca, zna] at h10
 obtain ⟨x_12, hr11, hR⟩ := hR
 refine Plan.call (vs := [.pointer (some ⟨bc1, 0, none⟩), AG [(16, fun q => VU .u8 (from_5 q))], VN data6.length]) rfl FRef04.call46 rfl (letheref04_Cipher_Stream_ok (by exact (hcW2.app [_])) hr11 h10) ?_
 rintro _ w18 ⟨ay0_13, py0_14, ny0_15, cy0_16, Fy0_17, rfl, h18, hf18_0⟩
 obtain rfl := hf18_0.hl
 refine ⟨_, rfl, .inr ⟨rfl, ?_⟩⟩
 refine Plan.assign_slice rfl rfl <| Plan.nil (k9 _ _ ?_); clear k9
 refine W.seq_k fun _ k19 => W.seq_k fun _ k20 => ?_
 refine W.regionT [(0, true)] (by kernel_rfl) ?_
 refine Plan.assign_int rfl rfl <| Plan.nil (k20 _ _ ?_); clear k20
 obtain ⟨s49, hI50, hR050⟩ := hR
 refine W.cutN (fun e w => ∃ y_s49 : List Byte, s49 = y_s49 ∧ ∃ as49 : Option Addr, ∃ ps49 : Option Nat, ∃ cs49 : Nat, ∃ Fs49 : Nat → Byte, EnvHas e [(7, .slice as49 x_12.length cs49)] ∧ St B w0 (⟨ps49, 0, cs49, fun q => VU .u8 (Fs49 q), true⟩ :: ⟨some bc1, 0, 1, fun _ => .slice acW2 cW2.length ccW2, true⟩ :: ⟨some bc1, 1, 256, fun q => VU .u8 (cs3 q), true⟩ :: ⟨some bc1, 257, 256, fun q => VU .u8 (cu4 q), true⟩ :: L) w ∧ Ow as49 ps49 x_12.length cs49 Fs49 y_s49) ?_ ?_
 ·
  refine W.block ?_
  have h51 := St.pickT (C := [_, _, _, _, _]) h18 [0, 1, 2, 3] (by decide)
  simp only [pick, zfc, zfn, zgz, zgs, zca, zna] at h51
  refine W.iter hI50 (fun (s50 : ((List Byte) × Nat)) e w => ∃ as47 : Option Addr, ∃ ps47 : Option Nat, ∃ cs47 : Nat, ∃ Fs47 : Nat → Byte, EnvHas e [(2, .slice adata6 data6.length cdata6), (7, .slice as47 x_12.length cs47), (8, VN s50.2)] ∧ St B w0 (⟨ps47, 0, cs47, fun q => VU .u8 (Fs47 q), true⟩ :: ⟨some bc1, 0, 1, fun _ => .slice acW2 cW2.length ccW2, true⟩ :: ⟨some bc1, 1, 256, fun q => VU .u8 (cs3 q), true⟩ :: ⟨some bc1, 257, 256, fun q => VU .u8 (cu4 q), true⟩ :: L) w ∧ Ow as47 ps47 x_12.length cs47 Fs47 s50.1) ⟨ay0_13, py0_14, cy0_16, Fy0_17, (zer (zer (zer zen))), h51, hf18_0⟩ ?_
  rintro ⟨s47, i_48⟩ o50 hR hx50 ev52 wl52 ⟨as47, ps47, cs47, Fs47, he52, h52, hs47⟩
  obtain ⟨ev52, rfl⟩ := he52.open
  unfold letheref04_Cipher_Hide_l0 at hR
  refine W.seq_k fun _ k53 => W.seq_k fun _ k54 => ?_
  refine W.regionT [(0, true), (1, true), (2, true), (3, true)] (by kernel_rfl) ?_
  refine Plan.move_int rfl rfl <| Plan.move_slice rfl rfl <| Plan.len FRef04.isl28 rfl rfl <| Plan.cmpP (a := (((i_48 : Nat) : Int) : Int)) (b := (((x_12.length : Nat) : Int) : Int)) (p := i_48 < x_12.length) rfl rfl rfl rfl icmp_ltN <| Plan.nil (k54 _ _ ?_); clear k54
  by_cases hc55 : i_48 < x_12.length
  ·
   replace hR := ifT hR hc55
   refine W.condT (congrArg Value.bool (decide_eq_true hc55)) ?_
   refine W.skip ?_
   refine k53 _ _ ?_; clear k53
   refine W.seq_k fun _ k56 => ?_
   refine W.block ?_
   refine W.regionD FRef04.mixed [(0, true), (1, true), (2, true), (3, true), (4, true), (5, true), (6, true), (7, true), (8, true), (9, true), (10, true), (11, true), (12, false)] (by kernel_rfl) ?_
   have h57 := h52.drew
   refine Plan.move_slice rfl rfl <| Plan.move_int rfl rfl <| Plan.move_slice rfl rfl <| Plan.move_int rfl rfl ?_
   obtain ⟨hc58, hR⟩ := hR
   refine Plan.idxVS (j := i_48) h57 (hs47.bx 0 rfl) FRef04.sl28 rfl rfl rfl hc58 ?_
   refine Plan.loadV (j := i_48) h57 (hs47.bx 0 rfl) rfl rfl hc58 FRef04.sc5 fun r59 hr59 => ?_
   refine Plan.move_slice rfl rfl <| Plan.move_int rfl rfl ?_
   obtain ⟨hc60, hR⟩ := hR
   refine Plan.idxVS (j := i_48) h57 (hdata6.app [_, _, _, _]) FRef04.sl28 rfl rfl rfl hc60 ?_
   refine Plan.loadV (j := i_48) h57 (hdata6.app [_, _, _, _]) rfl rfl hc60 FRef04.sc5 fun r61 hr61 => ?_
   refine Plan.xorU .u8 (X := (lit s47 i_48)) (Y := (lit data6 i_48)) rfl rfl rfl ?_
   obtain ⟨hc62, hR⟩ := hR
   refine Plan.idxVS (j := i_48) h57 (hs47.bx 0 rfl) FRef04.sl28 rfl rfl rfl hc62 ?_
   refine Plan.storeO (j := i_48) (Y := ((lit s47 i_48) ^^^ (lit data6 i_48))) h57 0 hs47 rfl rfl rfl rfl hc62 FRef04.sz5 rfl fun w63 F63 ho63 h63 => ?_
   simp only [zca, zna, zsz, zss] at h63
   have e63 : (s47.set i_48 ((lit s47 i_48) ^^^ (lit data6 i_48))).length = s47.length := List.length_set
   refine Plan.nil ?_
   refine blockR_norm ?_
   refine k56 _ _ ?_; clear k56
   refine W.regionT [(0, true), (1, true), (2, true)] (by kernel_rfl) ?_
   refine Plan.move_int rfl rfl ?_
   obtain ⟨hc64, hR⟩ := hR
   refine Plan.addN (a := i_48) (b := 1) rfl rfl rfl (by omega) <| Plan.assign_int rfl rfl <| Plan.nil ?_
   exact iterR_norm ⟨_, hR, as47, ps47, cs47, F63, (zer (zer (zer zen))), h63, (show Ow _ _ x_12.length _ _ _ from ho63)⟩
  ·
   replace hR := ifF hR hc55
   refine W.condF (congrArg Value.bool (decide_eq_false hc55)) ?_
   refine W.exit (thenR_exit (iterR_exit (blockR_here ?_)))
   exact ⟨s47, (hx50 _ hR).symm, as47, ps47, cs47, Fs47, (zer zen), h52, hs47⟩
 ·
  rintro ev65 wl65 ⟨y_s49, hy65, as49, ps49, cs49, Fs49, he65, h65, hs49⟩
  obtain ⟨ev65, rfl⟩ := he65.open
  subst hy65
  replace hR := hR050
  refine k19 _ _ ?_; clear k19
  refine W.seq_k fun _ k66 => W.regionT [(0, true), (1, true)] (by kernel_rfl) ?_
  refine Plan.move_slice rfl rfl <| Plan.assign_slice rfl rfl <| Plan.nil (k66 _ _ ?_); clear k66
  refine W.ret (finR_ret ?_)
  subst r
  refine RetOk.mk (.tmp_slice rfl .nil) ?_
  exact ⟨as49, ps49, x_12.length, cs49, Fs49, rfl, h65, hs49⟩
end Go.Proofs.Ythjkmhdgenmnoaa
