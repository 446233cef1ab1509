/-
 WALKS of the package's functions, printed by this session's own program (auto.py).
-/
import Derived.Test.YthjkmhdgenmnoaaProg
import Derived.Test.YthjkmhdgenmnoaaEc
import Derived.Test.YthjkmhdgenmnoaaRAesExact
import Derived.Test.YthjkmhdgenmnoaaEls
import Derived.Test.YthjkmhdgenmnoaaWAes
import Derived.Test.YthjkmhdgenmnoaaWLaw04
import Derived.Test.YthjkmhdgenmnoaaWRef04
namespace Go.Proofs.Ythjkmhdgenmnoaa
set_option linter.unusedSimpArgs false
set_option linter.unusedVariables false
set_option linter.unusedSectionVars false
set_option maxRecDepth 8000
set_option maxHeartbeats 1000000
open Go Go.LW
theorem FAesExact.row53 : rowB Try.prog 53 = true := by kernel_rfl
theorem FAesExact.z53 : zeroIs Try.prog 53 [(1, fun _ => .pointer none), (1, fun _ => .pointer none), (1, fun _ => .pointer none), (1, fun _ => .pointer none), (1, fun _ => .slice none 0 0), (1, fun _ => .slice none 0 0)] := zeroIs_agg (by kernel_rfl)
theorem FAesExact.el28 : elD Try.prog 28 = some (1, 1, some (VU .u8 0#8)) := by kernel_rfl
theorem FAesExact.pl56 : placesB Try.prog 56 [(0, 1), (1, 1), (2, 1), (3, 1), (4, 1), (5, 16), (21, 1)] = true := by kernel_rfl
theorem FAesExact.z56 : zeroIs Try.prog 56 [(1, fun _ => .int .i64 0), (1, fun _ => .int .i64 0), (1, fun _ => VU .u8 0#8), (1, fun _ => VU .u8 0#8), (1, fun _ => VU .u64 0#64), (16, fun _ => VU .u8 0#8), (1, fun _ => .slice none 0 0)] := zeroIs_agg (by kernel_rfl)
theorem FAesExact.fld56_1 : fieldB Try.prog 56 1 1 = true := by kernel_rfl
theorem FAesExact.sc3 : scalarT Try.prog 3 = true := by kernel_rfl
theorem FAesExact.fld56_6 : fieldB Try.prog 56 6 21 = true := by kernel_rfl
theorem FAesExact.sc28 : scalarT Try.prog 28 = true := by kernel_rfl
theorem FAesExact.sl28 : slB Try.prog 28 1 = true := by kernel_rfl
theorem FAesExact.sz5 : szT Try.prog 5 1 = true := by kernel_rfl
theorem FAesExact.call27 : callB Try.prog 27 = true := by kernel_rfl
theorem FAesExact.isl28 : ∃ el, Try.prog.underlying 28 = some (.slice el) := ⟨5, by kernel_rfl⟩
theorem FAesExact.fld56_0 : fieldB Try.prog 56 0 0 = true := by kernel_rfl
theorem FAesExact.agg56 : aggT Try.prog 56 22 = true := by kernel_rfl
theorem FAesExact.mixed : Try.prog.follows .mixedOrders = true := by kernel_rfl
theorem FAesExact.call9 : callB Try.prog 9 = true := by kernel_rfl
theorem FAesExact.sc5 : scalarT Try.prog 5 = true := by kernel_rfl
theorem FAesExact.call19 : callB Try.prog 19 = true := by kernel_rfl
theorem FAesExact.fld53_0 : fieldB Try.prog 53 0 0 = true := by kernel_rfl
theorem FAesExact.arr46 : arrB Try.prog 46 2 1 = true := by kernel_rfl
theorem FAesExact.sz30 : szT Try.prog 30 1 = true := by kernel_rfl
theorem FAesExact.fld53_1 : fieldB Try.prog 53 1 2 = true := by kernel_rfl
theorem FAesExact.call28 : callB Try.prog 28 = true := by kernel_rfl
theorem FAesExact.call38 : callB Try.prog 38 = true := by kernel_rfl
theorem FAesExact.arr48 : arrB Try.prog 48 2 1 = true := by kernel_rfl
theorem FAesExact.sz47 : szT Try.prog 47 1 = true := by kernel_rfl
theorem FAesExact.ptr30 : ptrB Try.prog 30 = true := by kernel_rfl
theorem FAesExact.call32 : callB Try.prog 32 = true := by kernel_rfl
theorem FAesExact.call14 : callB Try.prog 14 = true := by kernel_rfl
theorem FAesExact.call33 : callB Try.prog 33 = true := by kernel_rfl
theorem FAesExact.call21 : callB Try.prog 21 = true := by kernel_rfl
theorem FAesExact.isl44 : ∃ el, Try.prog.underlying 44 = some (.slice el) := ⟨56, by kernel_rfl⟩
theorem FAesExact.sl44 : slB Try.prog 44 22 = true := by kernel_rfl
theorem FAesExact.fld56_2 : fieldB Try.prog 56 2 2 = true := by kernel_rfl
theorem FAesExact.fld56_3 : fieldB Try.prog 56 3 3 = true := by kernel_rfl
theorem FAesExact.call10 : callB Try.prog 10 = true := by kernel_rfl
theorem FAesExact.call29 : callB Try.prog 29 = true := by kernel_rfl
theorem FAesExact.call18 : callB Try.prog 18 = true := by kernel_rfl
theorem FAesExact.call30 : callB Try.prog 30 = true := by kernel_rfl
theorem FAesExact.fld56_5 : fieldB Try.prog 56 5 5 = true := by kernel_rfl
theorem FAesExact.agg27 : aggT Try.prog 27 16 = true := by kernel_rfl
theorem FAesExact.fld56_4 : fieldB Try.prog 56 4 4 = true := by kernel_rfl
theorem FAesExact.sc29 : scalarT Try.prog 29 = true := by kernel_rfl
theorem FAesExact.call16 : callB Try.prog 16 = true := by kernel_rfl
theorem FAesExact.call31 : callB Try.prog 31 = true := by kernel_rfl
theorem FAesExact.arrI27 : arrIB Try.prog 27 16 .u8 = true := by kernel_rfl
theorem FAesExact.sc30 : scalarT Try.prog 30 = true := by kernel_rfl
theorem FAesExact.sc47 : scalarT Try.prog 47 = true := by kernel_rfl
theorem FAesExact.call15 : callB Try.prog 15 = true := by kernel_rfl
theorem FAesExact.call34 : callB Try.prog 34 = true := by kernel_rfl
theorem FAesExact.call17 : callB Try.prog 17 = true := by kernel_rfl
theorem FAesExact.call35 : callB Try.prog 35 = true := by kernel_rfl
theorem FAesExact.call13 : callB Try.prog 13 = true := by kernel_rfl
theorem FAesExact.call36 : callB Try.prog 36 = true := by kernel_rfl
theorem FAesExact.fld53_2 : fieldB Try.prog 53 2 4 = true := by kernel_rfl
theorem FAesExact.call37 : callB Try.prog 37 = true := by kernel_rfl
theorem FAesExact.call20 : callB Try.prog 20 = true := by kernel_rfl
theorem FAesExact.call22 : callB Try.prog 22 = true := by kernel_rfl
theorem lethelaw04_AesExact_ok {B : Nat} {w0 w : World} {L : List Rg} {script1 : List (Int × Int × (BitVec 8) × (BitVec 8) × (BitVec 64) × (Nat → BitVec 8) × (List Byte))} {ascript1 : Option Addr} {nscript1 cscript1 iscript1 : Nat} (hscript1 : LV (D56.at L) L iscript1 ascript1 nscript1 cscript1 script1) {r : Bool} (hR : lethelaw04_AesExact script1 r) (HST : St B w0 (L) w) :
  Calls Try.prog 8 #[.slice ascript1 nscript1 cscript1] w fun e w' => e = .returned (.bool r) ∧ St B w0 (L) w' := by
 refine W.enter 61 Try.func8 rfl rfl rfl ?_
 unfold lethelaw04_AesExact at hR
 have hFr : Fr2 L L L L := Fr2.refl _ _
 have escript1 := hscript1.hl; subst escript1
 refine W.seq_k fun _ k2 => W.regionT [(0, true)] (by kernel_rfl) ?_
 refine Plan.assign_bool rfl rfl <| Plan.nil (k2 _ _ ?_); clear k2
 refine W.seq_k fun _ k3 => W.regionT [(0, true), (1, false), (2, true)] (by kernel_rfl) ?_
 refine Plan.buildZ FAesExact.row53 FAesExact.z53 rfl ?_
 refine Plan.boxA HST rfl rfl PIn.nil fun b4 w4 hb4 h4 => ?_
 simp only [rngs, Nat.zero_add, Nat.reduceAdd, zca, zna] at h4
 refine Plan.assign_ptr rfl rfl <| Plan.nil (k3 _ _ ?_); clear k3
 refine W.seq_k fun _ k5 => W.seq_k fun _ k6 => ?_
 refine W.regionT [(0, true)] (by kernel_rfl) ?_
 refine Plan.assign_int rfl rfl <| Plan.nil (k6 _ _ ?_); clear k6
 refine W.block ?_
 refine W.unroll 9 (UL.next ?_)
 refine W.seq_k fun _ k7 => W.seq_k fun _ k8 => ?_
 refine W.regionT [(0, true), (1, true)] (by kernel_rfl) ?_
 refine Plan.move_int rfl rfl <| Plan.cmpP (a := (0 : Int)) (b := (2 : Int)) (p := (0 : Nat) < 2) rfl rfl rfl rfl icmp_ltN <| Plan.nil (k8 _ _ ?_); clear k8
 refine W.condT rfl ?_
 refine W.skip ?_
 refine k7 _ _ ?_; clear k7
 refine W.seq_k fun _ k9 => ?_
 refine W.block ?_
 refine W.seq_k fun _ k10 => W.regionT [(0, true), (1, true), (2, false), (3, true), (4, false), (5, true)] (by kernel_rfl) ?_
 refine Plan.move_ptr rfl rfl <| Plan.move_int rfl rfl ?_
 refine Plan.makeO (len := 32) (c := 32) h4 FAesExact.el28 rfl rfl rfl (by omega) (by omega) (fun _ => EffO.keep PIn.nil) fun b11 w11 hb11 ho11 h11 => ?_
 refine Plan.buildP (ps := [(1, fun _ => VN 3), (1, fun _ => VN 0), (1, fun _ => VU .u8 (0#8)), (1, fun _ => VU .u8 (0#8)), (1, fun _ => VU .u64 (0#64)), (16, fun q => VU .u8 ((fun _ => 0#8) q)), (1, fun _ => .slice (some ⟨b11, 0, none⟩) ((List.replicate 32 0#8).length) 32)]) FAesExact.pl56 (by decide) FAesExact.z56 rfl rfl (.one [] [(1, fun _ => VN 0), (1, fun _ => VU .u8 (0#8)), (1, fun _ => VU .u8 (0#8)), (1, fun _ => VU .u64 (0#64)), (16, fun q => VU .u8 ((fun _ => 0#8) q)), (1, fun _ => .slice none 0 0)] (fun _ => VN 0) rfl rfl (.one [(1, fun _ => VN 3)] [(1, fun _ => VU .u8 (0#8)), (1, fun _ => VU .u8 (0#8)), (1, fun _ => VU .u64 (0#64)), (16, fun q => VU .u8 ((fun _ => 0#8) q)), (1, fun _ => .slice none 0 0)] (fun _ => VN 0) rfl rfl (.one [(1, fun _ => VN 3), (1, fun _ => VN 0), (1, fun _ => VU .u8 (0#8)), (1, fun _ => VU .u8 (0#8)), (1, fun _ => VU .u64 (0#64)), (16, fun q => VU .u8 ((fun _ => 0#8) q))] [] (fun _ => .slice none 0 0) rfl rfl .nil))) ?_
 obtain ⟨script527, m529, m530, m531, m532, m534, m535, m536, hX526, hR0526⟩ := hR
 refine Plan.call (vs := [.pointer (some ⟨b4, 0, none⟩), AG [(1, fun _ => VN 3), (1, fun _ => VN 0), (1, fun _ => VU .u8 (0#8)), (1, fun _ => VU .u8 (0#8)), (1, fun _ => VU .u64 (0#64)), (16, fun q => VU .u8 ((fun _ => 0#8) q)), (1, fun _ => .slice (some ⟨b11, 0, none⟩) ((List.replicate 32 0#8).length) 32)]]) (R := fun e w => ∃ y_script527 : Bool, ∃ y_m529 : Nat → BitVec 8, ∃ y_m530 : Nat → BitVec 8, ∃ y_m531 : Nat → BitVec 8, ∃ y_m532 : Nat → BitVec 8, ∃ y_m534 : List (Nat → BitVec 8), ∃ y_m535 : Nat → BitVec 8, ∃ y_m536 : Nat → BitVec 8, (script527 = y_script527 ∧ m529 = y_m529 ∧ m530 = y_m530 ∧ m531 = y_m531 ∧ m532 = y_m532 ∧ m534 = y_m534 ∧ m535 = y_m535 ∧ m536 = y_m536) ∧ ∃ b528 : Nat, ∃ b533 : Nat, ∃ n_m534 : Nat, ∃ am534 : Option Addr, ∃ pm534 : Option Nat, ∃ cm534 : Nat, ∃ Fm534 : Nat → Value, e = .returned (.bool y_script527) ∧ St B w0 (⟨some b528, 0, 240, fun q => VU .u8 (y_m529 q), true⟩ :: ⟨some b528, 240, 256, fun q => VU .u8 (y_m530 q), true⟩ :: ⟨some b528, 496, 256, fun q => VU .u8 (y_m531 q), true⟩ :: ⟨some b528, 752, 256, fun q => VU .u8 (y_m532 q), true⟩ :: ⟨pm534, 0, cm534 * 4, Fm534, true⟩ :: ⟨some b533, 0, 1, fun _ => .slice am534 n_m534 cm534, true⟩ :: ⟨some b533, 1, 256, fun q => VU .u8 (y_m535 q), true⟩ :: ⟨some b533, 257, 256, fun q => VU .u8 (y_m536 q), true⟩ :: ⟨some b4, 0, 1, fun _ => .pointer (some ⟨b528, 0, none⟩), true⟩ :: ⟨some b4, 1, 1, fun _ => .pointer none, true⟩ :: ⟨some b4, 2, 1, fun _ => .pointer (some ⟨b533, 0, none⟩), true⟩ :: ⟨some b4, 3, 1, fun _ => .pointer none, true⟩ :: ⟨some b4, 4, 1, fun _ => .slice none 0 0, true⟩ :: ⟨some b4, 5, 1, fun _ => .slice none 0 0, true⟩ :: L) w ∧ LO D76 [] am534 pm534 n_m534 cm534 Fm534 y_m534) rfl FAesExact.call21 rfl ?_ ?_
 ·
  replace hR := hX526
  refine W.enter 185 Try.func21 rfl rfl rfl ?_
  refine W.seq_k fun _ k537 => W.regionT [(0, false), (1, true)] (by kernel_rfl) ?_
  refine Plan.boxA h11 rfl rfl PIn.nil fun b538 w538 hb538 h538 => ?_
  simp only [rngs, Nat.zero_add, Nat.reduceAdd, zca, zna] at h538
  refine Plan.assign_bool rfl rfl <| Plan.nil (k537 _ _ ?_); clear k537
  refine W.seq_k fun _ k539 => W.regionT [(0, true), (1, true), (2, true), (3, true)] (by kernel_rfl) ?_
  refine Plan.fieldAddr 1 FAesExact.fld56_1 rfl rfl <| Plan.load0 h538 1 rfl rfl rfl (by omega) FAesExact.sc3 <| Plan.andN (a := 0) (b := 1) rfl rfl rfl (by omega) <| Plan.assign_int rfl rfl <| Plan.nil (k539 _ _ ?_); clear k539
  refine W.seq_k fun _ k540 => W.regionT [(0, true), (1, true), (2, false), (3, true)] (by kernel_rfl) ?_
  refine Plan.fieldAddr 21 FAesExact.fld56_6 rfl rfl <| Plan.load0 h538 6 rfl rfl rfl (by omega) FAesExact.sc28 ?_
  obtain ⟨x_542, hr541, hR⟩ := hR
  refine Plan.call (vs := [.slice (some ⟨b11, 0, none⟩) ((List.replicate 32 0#8).length) 32]) rfl FAesExact.call27 rfl (lethelaw04_Room_ok (by exact (ho11.bx 7 rfl)) hr541 h538) ?_
  rintro _ w548 ⟨ay0_543, py0_544, ny0_545, cy0_546, Fy0_547, rfl, h548, hf548_0⟩
  obtain rfl := hf548_0.hl
  refine ⟨_, rfl, .inr ⟨rfl, ?_⟩⟩
  refine Plan.assign_slice rfl rfl <| Plan.nil (k540 _ _ ?_); clear k540
  refine W.seq_k fun _ k549 => W.regionT [(0, true), (1, true), (2, true), (3, true), (4, true), (5, true)] (by kernel_rfl) ?_
  refine Plan.move_slice rfl rfl <| Plan.fieldAddr 21 FAesExact.fld56_6 rfl rfl <| Plan.load0 h548 7 rfl rfl rfl (by omega) FAesExact.sc28 <| Plan.len FAesExact.isl28 rfl rfl ?_
  rw [List.length_replicate (n := 32) (a := (0#8 : Byte))]
  have hrl550 := ho11; rw [List.length_replicate (n := 32) (a := (0#8 : Byte))] at hrl550
  obtain ⟨hc551, hR⟩ := hR
  have hm552 := hf548_0.hc
  refine Plan.slSl (lo := 0) (hi := 32) FAesExact.sl28 rfl rfl rfl ⟨_, rfl⟩ (by omega) <| Plan.assign_slice rfl rfl <| Plan.nil (k549 _ _ ?_); clear k549
  refine W.seq_k fun _ k553 => W.regionT [(0, true)] (by kernel_rfl) ?_
  refine Plan.assign_bool rfl rfl <| Plan.nil (k553 _ _ ?_); clear k553
  refine W.seq_k fun _ k554 => W.seq_k fun _ k803 => ?_
  refine W.regionT [(0, true), (1, true)] (by kernel_rfl) ?_
  refine Plan.fieldAddr0 FAesExact.fld56_0 rfl rfl <| Plan.load0 h548 1 rfl rfl rfl (by omega) FAesExact.sc3 <| Plan.nil (k803 _ _ ?_); clear k803
  refine W.block ?_
  refine W.seq_k fun _ k804 => W.regionT [(0, true), (1, true)] (by kernel_rfl) ?_
  refine Plan.cmpP (a := (3 : Int)) (b := (1 : Int)) (p := (3 : Nat) = 1) rfl rfl rfl rfl icmp_eqN <| Plan.assign_bool rfl rfl <| Plan.nil (k804 _ _ ?_); clear k804
  refine W.condF rfl ?_
  refine W.seq_k fun _ k805 => W.regionT [(0, true), (1, true)] (by kernel_rfl) ?_
  refine Plan.cmpP (a := (3 : Int)) (b := (2 : Int)) (p := (3 : Nat) = 2) rfl rfl rfl rfl icmp_eqN <| Plan.assign_bool rfl rfl <| Plan.nil (k805 _ _ ?_); clear k805
  refine W.condF rfl ?_
  refine W.seq_k fun _ k806 => W.regionT [(0, true), (1, true)] (by kernel_rfl) ?_
  refine Plan.cmpP (a := (3 : Int)) (b := (3 : Int)) (p := (3 : Nat) = 3) rfl rfl rfl rfl icmp_eqN <| Plan.assign_bool rfl rfl <| Plan.nil (k806 _ _ ?_); clear k806
  refine W.condT rfl ?_
  refine W.seq_k fun _ k807 => ?_
  obtain ⟨x_906, ok907, m909, m910, m911, m912, m914, m915, m916, hX917, hR0917⟩ := hR
  refine W.cutN (fun e w => ∃ y_x_906 : List Byte, ∃ y_ok907 : Bool, ∃ y_m909 : Nat → BitVec 8, ∃ y_m910 : Nat → BitVec 8, ∃ y_m911 : Nat → BitVec 8, ∃ y_m912 : Nat → BitVec 8, ∃ y_m914 : List (Nat → BitVec 8), ∃ y_m915 : Nat → BitVec 8, ∃ y_m916 : Nat → BitVec 8, (x_906 = y_x_906 ∧ ok907 = y_ok907 ∧ m909 = y_m909 ∧ m910 = y_m910 ∧ m911 = y_m911 ∧ m912 = y_m912 ∧ m914 = y_m914 ∧ m915 = y_m915 ∧ m916 = y_m916) ∧ ∃ ax_906 : Option Addr, ∃ px_906 : Option Nat, ∃ cx_906 : Nat, ∃ Fx_906 : Nat → Byte, ∃ b908 : Nat, ∃ b913 : Nat, ∃ n_m914 : Nat, ∃ am914 : Option Addr, ∃ pm914 : Option Nat, ∃ cm914 : Nat, ∃ Fm914 : Nat → Value, EnvHas e [(6, .slice ax_906 x_542.length cx_906), (8, .bool y_ok907)] ∧ St B w0 (⟨px_906, 0, cx_906, fun q => VU .u8 (Fx_906 q), true⟩ :: ⟨some b908, 0, 240, fun q => VU .u8 (y_m909 q), true⟩ :: ⟨some b908, 240, 256, fun q => VU .u8 (y_m910 q), true⟩ :: ⟨some b908, 496, 256, fun q => VU .u8 (y_m911 q), true⟩ :: ⟨some b908, 752, 256, fun q => VU .u8 (y_m912 q), true⟩ :: ⟨pm914, 0, cm914 * 4, Fm914, true⟩ :: ⟨some b913, 0, 1, fun _ => .slice am914 n_m914 cm914, true⟩ :: ⟨some b913, 1, 256, fun q => VU .u8 (y_m915 q), true⟩ :: ⟨some b913, 257, 256, fun q => VU .u8 (y_m916 q), true⟩ :: ⟨some b4, 0, 1, fun _ => .pointer (some ⟨b908, 0, none⟩), true⟩ :: ⟨some b4, 1, 1, fun _ => .pointer none, true⟩ :: ⟨some b4, 2, 1, fun _ => .pointer (some ⟨b913, 0, none⟩), true⟩ :: ⟨some b4, 3, 1, fun _ => .pointer none, true⟩ :: ⟨some b4, 4, 1, fun _ => .slice none 0 0, true⟩ :: ⟨some b4, 5, 1, fun _ => .slice none 0 0, true⟩ :: L) w ∧ Ow ax_906 px_906 x_542.length cx_906 Fx_906 y_x_906 ∧ LO D76 [] am914 pm914 n_m914 cm914 Fm914 y_m914) ?_ ?_
  ·
   replace hR := hX917
   refine W.regionT [(0, true), (1, true), (2, true), (3, false), (4, true), (5, true), (6, true), (7, true), (8, false), (9, true), (10, true)] (by kernel_rfl) ?_
   refine Plan.move_ptr rfl rfl <| Plan.loadA h548 rfl rfl (.cons 1 rfl (.cons 2 rfl (.cons 3 rfl (.cons 4 rfl (.cons 5 rfl (.cons 6 rfl (.cons 7 rfl .nil))))))) FAesExact.agg56 <| Plan.move_slice rfl rfl ?_
   obtain ⟨t959, m961, m962, m963, m964, m966, m967, m968, hX958, hR0958⟩ := hR
   refine Plan.call (vs := [.pointer (some ⟨b4, 0, none⟩), AG [(1, fun _ => VN 3), (1, fun _ => VN 0), (1, fun _ => VU .u8 (0#8)), (1, fun _ => VU .u8 (0#8)), (1, fun _ => VU .u64 (0#64)), (16, fun q => VU .u8 ((fun _ => 0#8) q)), (1, fun _ => .slice (some ⟨b11, 0, none⟩) 32 32)], .slice (if cy0_546 = 0 then (ay0_543 : Option Addr) else (ay0_543 : Option Addr).map (·.add (0 * 1))) (32 - 0) (cy0_546 - 0)]) (R := fun e w => ∃ y_t959 : Bool, ∃ y_m961 : Nat → BitVec 8, ∃ y_m962 : Nat → BitVec 8, ∃ y_m963 : Nat → BitVec 8, ∃ y_m964 : Nat → BitVec 8, ∃ y_m966 : List (Nat → BitVec 8), ∃ y_m967 : Nat → BitVec 8, ∃ y_m968 : Nat → BitVec 8, (t959 = y_t959 ∧ m961 = y_m961 ∧ m962 = y_m962 ∧ m963 = y_m963 ∧ m964 = y_m964 ∧ m966 = y_m966 ∧ m967 = y_m967 ∧ m968 = y_m968) ∧ ∃ b960 : Nat, ∃ b965 : Nat, ∃ n_m966 : Nat, ∃ am966 : Option Addr, ∃ pm966 : Option Nat, ∃ cm966 : Nat, ∃ Fm966 : Nat → Value, e = .returned (.bool y_t959) ∧ St B w0 (⟨some b960, 0, 240, fun q => VU .u8 (y_m961 q), true⟩ :: ⟨some b960, 240, 256, fun q => VU .u8 (y_m962 q), true⟩ :: ⟨some b960, 496, 256, fun q => VU .u8 (y_m963 q), true⟩ :: ⟨some b960, 752, 256, fun q => VU .u8 (y_m964 q), true⟩ :: ⟨pm966, 0, cm966 * 4, Fm966, true⟩ :: ⟨some b965, 0, 1, fun _ => .slice am966 n_m966 cm966, true⟩ :: ⟨some b965, 1, 256, fun q => VU .u8 (y_m967 q), true⟩ :: ⟨some b965, 257, 256, fun q => VU .u8 (y_m968 q), true⟩ :: ⟨py0_544, 0, cy0_546, fun q => VU .u8 (Fy0_547 q), true⟩ :: ⟨some b538, 0, 1, fun _ => VN 3, true⟩ :: ⟨some b538, 1, 1, fun _ => VN 0, true⟩ :: ⟨some b538, 2, 1, fun _ => VU .u8 (0#8), true⟩ :: ⟨some b538, 3, 1, fun _ => VU .u8 (0#8), true⟩ :: ⟨some b538, 4, 1, fun _ => VU .u64 (0#64), true⟩ :: ⟨some b538, 5, 16, fun q => VU .u8 ((fun _ => 0#8) q), true⟩ :: ⟨some b538, 21, 1, fun _ => .slice (some ⟨b11, 0, none⟩) 32 32, true⟩ :: ⟨some b11, 0, 32, fun q => VU .u8 ((fun _ => 0#8) q), true⟩ :: ⟨some b4, 0, 1, fun _ => .pointer (some ⟨b960, 0, none⟩), true⟩ :: ⟨some b4, 1, 1, fun _ => .pointer none, true⟩ :: ⟨some b4, 2, 1, fun _ => .pointer (some ⟨b965, 0, none⟩), true⟩ :: ⟨some b4, 3, 1, fun _ => .pointer none, true⟩ :: ⟨some b4, 4, 1, fun _ => .slice none 0 0, true⟩ :: ⟨some b4, 5, 1, fun _ => .slice none 0 0, true⟩ :: L) w ∧ LO D76 [] am966 pm966 n_m966 cm966 Fm966 y_m966) rfl FAesExact.call32 rfl ?_ ?_
   ·
    replace hR := hX958
    refine W.enter 48 Try.func32 rfl rfl rfl ?_
    refine W.seq_k fun _ k969 => W.regionT [(0, false), (1, true)] (by kernel_rfl) ?_
    refine Plan.boxA h548 rfl rfl PIn.nil fun b970 w970 hb970 h970 => ?_
    simp only [rngs, Nat.zero_add, Nat.reduceAdd, zca, zna] at h970
    refine Plan.assign_bool rfl rfl <| Plan.nil (k969 _ _ ?_); clear k969
    refine W.seq_k fun _ k971 => W.regionT [(0, true), (1, true), (2, true), (3, true)] (by kernel_rfl) ?_
    refine Plan.fieldAddr 1 FAesExact.fld56_1 rfl rfl <| Plan.load0 h970 1 rfl rfl rfl (by omega) FAesExact.sc3 <| Plan.andN (a := 0) (b := 1) rfl rfl rfl (by omega) <| Plan.assign_int rfl rfl <| Plan.nil (k971 _ _ ?_); clear k971
    refine W.seq_k fun _ k972 => W.regionT [(0, true), (1, false), (2, true), (3, true), (4, true), (5, true), (6, true)] (by kernel_rfl) ?_
    refine Plan.move_slice rfl rfl ?_
    rcases hR with ⟨x_974, hr973, hR⟩ | ⟨x_975, x_976, x_977, x_978, x_979, hr973, hR⟩
    ·
     refine Plan.call (vs := [.slice (if cy0_546 = 0 then (ay0_543 : Option Addr) else (ay0_543 : Option Addr).map (·.add (0 * 1))) (32 - 0) (cy0_546 - 0)]) rfl FAesExact.call19 rfl (aes_New_ok (by exact ((hf548_0.bx 7 rfl).seg (lo := 0) (hi := 32) hc551)) hr973 h970) ?_
     rintro _ w980 ⟨rfl, h980⟩
     refine ⟨_, rfl, .inl ⟨PIn.keep PIn.nil h980, ?_⟩⟩
     refine Plan.move_tuple rfl rfl <| Plan.extract_ptr rfl rfl rfl <| Plan.extract_int rfl rfl rfl <| Plan.assign_ptr rfl rfl <| Plan.assign_int rfl rfl <| Plan.nil (k972 _ _ ?_); clear k972
     refine W.seq_k fun _ k981 => W.seq_k fun _ k982 => ?_
     refine W.regionT [(0, true), (1, true), (2, true), (3, true)] (by kernel_rfl) ?_
     refine Plan.fieldAddr 21 FAesExact.fld56_6 rfl rfl <| Plan.load0 h980 6 rfl rfl rfl (by omega) FAesExact.sc28 <| Plan.len FAesExact.isl28 rfl rfl <| Plan.cmpP (a := (32 : Int)) (b := (32 : Int)) (p := (32 : Nat) ≠ 32) rfl rfl rfl rfl icmp_neN <| Plan.nil (k982 _ _ ?_); clear k982
     refine W.condF rfl ?_
     refine W.skip ?_
     refine k981 _ _ ?_; clear k981
     refine W.seq_k fun _ k983 => W.regionT [(0, true), (1, true), (2, true), (3, true), (4, true), (5, true), (6, false)] (by kernel_rfl) ?_
     refine Plan.move_ptr rfl rfl <| Plan.move_int rfl rfl <| Plan.move_ptr rfl rfl <| Plan.nilCheck rfl rfl <| Plan.fieldAddr0 FAesExact.fld53_0 rfl rfl <| Plan.idxArrO (j := 0) (o' := 0) FAesExact.arr46 rfl rfl rfl (by omega) rfl ?_
     exact hR.elim
    ·
     refine Plan.call (vs := [.slice (if cy0_546 = 0 then (ay0_543 : Option Addr) else (ay0_543 : Option Addr).map (·.add (0 * 1))) (32 - 0) (cy0_546 - 0)]) rfl FAesExact.call19 rfl (aes_New_ok (by exact ((hf548_0.bx 7 rfl).seg (lo := 0) (hi := 32) hc551)) hr973 h970) ?_
     rintro _ w986 ⟨b0_985, rfl, h986⟩
     refine ⟨_, rfl, .inl ⟨PIn.keep PIn.nil h986, ?_⟩⟩
     refine Plan.move_tuple rfl rfl <| Plan.extract_ptr rfl rfl rfl <| Plan.extract_int rfl rfl rfl <| Plan.assign_ptr rfl rfl <| Plan.assign_int rfl rfl <| Plan.nil (k972 _ _ ?_); clear k972
     refine W.seq_k fun _ k987 => W.seq_k fun _ k988 => ?_
     refine W.regionT [(0, true), (1, true), (2, true), (3, true)] (by kernel_rfl) ?_
     refine Plan.fieldAddr 21 FAesExact.fld56_6 rfl rfl <| Plan.load0 h986 10 rfl rfl rfl (by omega) FAesExact.sc28 <| Plan.len FAesExact.isl28 rfl rfl <| Plan.cmpP (a := (32 : Int)) (b := (32 : Int)) (p := (32 : Nat) ≠ 32) rfl rfl rfl rfl icmp_neN <| Plan.nil (k988 _ _ ?_); clear k988
     refine W.condF rfl ?_
     refine W.skip ?_
     refine k987 _ _ ?_; clear k987
     refine W.seq_k fun _ k989 => W.regionT [(0, true), (1, true), (2, true), (3, true), (4, true), (5, true), (6, false)] (by kernel_rfl) ?_
     refine Plan.move_ptr rfl rfl <| Plan.move_int rfl rfl <| Plan.move_ptr rfl rfl <| Plan.nilCheck rfl rfl <| Plan.fieldAddr0 FAesExact.fld53_0 rfl rfl <| Plan.idxArrO (j := 0) (o' := 0) FAesExact.arr46 rfl rfl rfl (by omega) rfl ?_
     refine Plan.storeC h986 20 rfl rfl rfl rfl rfl FAesExact.sz30 rfl fun w990 h990 => ?_
     simp only [zca, zna, zsz, zss] at h990
     refine Plan.nil (k989 _ _ ?_); clear k989
     refine W.seq_k fun _ k991 => ?_
     refine W.regionD FAesExact.mixed [(0, true), (1, true), (2, true), (3, true), (5, true), (6, true), (4, false), (7, true), (8, false)] (by kernel_rfl) ?_
     have h992 := h990.drew
     refine Plan.move_ptr rfl rfl <| Plan.move_int rfl rfl <| Plan.fieldAddr 21 FAesExact.fld56_6 rfl rfl <| Plan.load0 h992 10 rfl rfl rfl (by omega) FAesExact.sc28 <| Plan.nilCheck rfl rfl <| Plan.fieldAddr 2 FAesExact.fld53_1 rfl rfl ?_
     rcases hR with ⟨hr993, hR⟩ | ⟨x_994, x_995, x_996, hr993, hR⟩
     ·
      refine Plan.call (vs := [.slice (some ⟨b11, 0, none⟩) 32 32]) rfl FAesExact.call38 rfl (letheref04_New_ok (by exact (hrl550.bx 19 rfl)) hr993 h992) ?_
      rintro _ w997 ⟨rfl, h997⟩
      refine ⟨_, rfl, .inr ⟨rfl, ?_⟩⟩
      refine Plan.idxArrO (j := 0) (o' := 2) FAesExact.arr48 rfl rfl rfl (by omega) rfl ?_
      exact hR.elim
     ·
      refine Plan.call (vs := [.slice (some ⟨b11, 0, none⟩) 32 32]) rfl FAesExact.call38 rfl (letheref04_New_ok (by exact (hrl550.bx 19 rfl)) hr993 h992) ?_
      rintro _ w1005 ⟨b0_999, aw0_0_1000, pw0_0_1001, nw0_0_1002, cw0_0_1003, Fw0_0_1004, rfl, h1005, hf1005_0⟩
      try dsimp only at hf1005_0
      obtain rfl := hf1005_0.hl
      refine ⟨_, rfl, .inr ⟨rfl, ?_⟩⟩
      refine Plan.idxArrO (j := 0) (o' := 2) FAesExact.arr48 rfl rfl rfl (by omega) rfl ?_
      refine Plan.storeC h1005 26 rfl rfl rfl rfl rfl FAesExact.sz47 rfl fun w1006 h1006 => ?_
      simp only [zca, zna, zsz, zss] at h1006
      refine Plan.nil (k991 _ _ ?_); clear k991
      refine W.seq_k fun _ k1007 => W.regionT [(0, true), (1, true), (2, true), (3, true), (4, true), (5, true), (6, true)] (by kernel_rfl) ?_
      refine Plan.move_int rfl rfl ?_
      by_cases hc1008 : x_979 = 0
      ·
       replace hR := ifT hR hc1008
       refine Plan.cmpV (a := (((x_979 : Nat) : Int) : Int)) (b := (0 : Int)) (p := x_979 = 0) (v := true) rfl rfl rfl rfl icmp_eqN (decide_eq_true hc1008) <| Plan.move_bool rfl rfl <| Plan.move_ptr rfl rfl <| Plan.neNil (b := true) FAesExact.ptr30 rfl rfl rfl rfl <| Plan.pickTb rfl rfl rfl <| Plan.assign_bool rfl rfl <| Plan.nil (k1007 _ _ ?_); clear k1007
       refine W.ret (finR_ret ?_)
       have h1009 := St.pickT (C := [_, _, _, _, _, _, _, _, _, _, _, _, _, _, _, _, _, _, _, _, _, _, _, _, _, _, _, _, _, _]) h1006 [4, 5, 6, 7, 1, 0, 2, 3, 15, 16, 17, 18, 19, 20, 21, 22, 23, 24, 25, 26, 27, 28, 29] (by decide)
       simp only [pick, zfc, zfn, zgz, zgs, zca, zna] at h1009
       refine RetOk.mk (.tmp_bool rfl .nil) ?_
       exact ⟨true, x_975, x_976, x_977, x_978, x_994, x_995, x_996, hR, b0_985, b0_999, x_994.length, aw0_0_1000, pw0_0_1001, cw0_0_1003, Fw0_0_1004, rfl, h1009, hf1005_0⟩
      ·
       replace hR := ifF hR hc1008
       refine Plan.cmpV (a := (((x_979 : Nat) : Int) : Int)) (b := (0 : Int)) (p := x_979 = 0) (v := false) rfl rfl rfl rfl icmp_eqN (decide_eq_false hc1008) <| Plan.move_bool rfl rfl <| Plan.passed rfl <| Plan.passed rfl <| Plan.pickFb rfl rfl rfl <| Plan.assign_bool rfl rfl <| Plan.nil (k1007 _ _ ?_); clear k1007
       refine W.ret (finR_ret ?_)
       have h1010 := St.pickT (C := [_, _, _, _, _, _, _, _, _, _, _, _, _, _, _, _, _, _, _, _, _, _, _, _, _, _, _, _, _, _]) h1006 [4, 5, 6, 7, 1, 0, 2, 3, 15, 16, 17, 18, 19, 20, 21, 22, 23, 24, 25, 26, 27, 28, 29] (by decide)
       simp only [pick, zfc, zfn, zgz, zgs, zca, zna] at h1010
       refine RetOk.mk (.tmp_bool rfl .nil) ?_
       exact ⟨false, x_975, x_976, x_977, x_978, x_994, x_995, x_996, hR, b0_985, b0_999, x_994.length, aw0_0_1000, pw0_0_1001, cw0_0_1003, Fw0_0_1004, rfl, h1010, hf1005_0⟩
   ·
    rintro _ w1011 ⟨y_t959, y_m961, y_m962, y_m963, y_m964, y_m966, y_m967, y_m968, ⟨hy1011_0, hy1011_1, hy1011_2, hy1011_3, hy1011_4, hy1011_5, hy1011_6, hy1011_7⟩, b960, b965, n_m966, am966, pm966, cm966, Fm966, rfl, h1011, hm966⟩
    subst hy1011_0
    subst hy1011_1
    subst hy1011_2
    subst hy1011_3
    subst hy1011_4
    subst hy1011_5
    subst hy1011_6
    subst hy1011_7
    obtain rfl : List.length (α := (Nat → BitVec 8)) m966 = n_m966 := hm966.hl
    replace hR := hR0958
    refine ⟨_, rfl, .inr ⟨rfl, ?_⟩⟩
    by_cases hc1012 : t959 = true
    ·
     replace hR := ifT hR hc1012
     obtain rfl : t959 = true := hc1012
     refine Plan.move_bool rfl rfl <| Plan.move_slice rfl rfl <| Plan.fieldAddr 21 FAesExact.fld56_6 rfl rfl <| Plan.load0 h1011 15 rfl rfl rfl (by omega) FAesExact.sc28 ?_
     obtain ⟨x_1014, hr1013, hR⟩ := hR
     refine Plan.call (vs := [.slice ay0_543 x_542.length cy0_546, .slice (some ⟨b11, 0, none⟩) 32 32]) rfl FAesExact.call33 rfl (lethelaw04_Kept_ok (by exact (hf548_0.bx 8 rfl)) (by exact (hrl550.bx 16 rfl)) hr1013 h1011) ?_
     rintro _ w1015 ⟨rfl, h1015⟩
     refine ⟨_, rfl, .inr ⟨rfl, ?_⟩⟩
     refine Plan.pickTb rfl rfl rfl <| Plan.assign_bool rfl rfl <| Plan.nil ?_
     have h1016 := St.pickT (C := [_, _, _, _, _, _, _, _, _, _, _, _, _, _, _, _, _, _, _, _, _, _, _]) h1015 [8, 0, 1, 2, 3, 4, 5, 6, 7, 17, 18, 19, 20, 21, 22] (by decide)
     simp only [pick, zfc, zfn, zgz, zgs, zca, zna] at h1016
     exact ⟨x_542, x_1014, m961, m962, m963, m964, m966, m967, m968, hR, ay0_543, py0_544, cy0_546, Fy0_547, b960, b965, m966.length, am966, pm966, cm966, Fm966, (zer (zer zen)), h1016, hf548_0, hm966⟩
    ·
     replace hR := ifF hR hc1012
     obtain rfl : t959 = false := Bool.eq_false_iff.2 hc1012
     refine Plan.move_bool rfl rfl <| Plan.passed rfl <| Plan.passed rfl <| Plan.passed rfl <| Plan.passed rfl <| Plan.pickFb rfl rfl rfl <| Plan.assign_bool rfl rfl <| Plan.nil ?_
     have h1017 := St.pickT (C := [_, _, _, _, _, _, _, _, _, _, _, _, _, _, _, _, _, _, _, _, _, _, _]) h1011 [8, 0, 1, 2, 3, 4, 5, 6, 7, 17, 18, 19, 20, 21, 22] (by decide)
     simp only [pick, zfc, zfn, zgz, zgs, zca, zna] at h1017
     exact ⟨x_542, false, m961, m962, m963, m964, m966, m967, m968, hR, ay0_543, py0_544, cy0_546, Fy0_547, b960, b965, m966.length, am966, pm966, cm966, Fm966, (zer (zer zen)), h1017, hf548_0, hm966⟩
  ·
   rintro ev1018 wl1018 ⟨y_x_906, y_ok907, y_m909, y_m910, y_m911, y_m912, y_m914, y_m915, y_m916, ⟨hy1018_0, hy1018_1, hy1018_2, hy1018_3, hy1018_4, hy1018_5, hy1018_6, hy1018_7, hy1018_8⟩, ax_906, px_906, cx_906, Fx_906, b908, b913, n_m914, am914, pm914, cm914, Fm914, he1018, h1018, hx_906, hm914⟩
   subst hy1018_0
   subst hy1018_1
   subst hy1018_2
   subst hy1018_3
   subst hy1018_4
   subst hy1018_5
   subst hy1018_6
   subst hy1018_7
   subst hy1018_8
   obtain rfl : List.length (α := (Nat → BitVec 8)) m914 = n_m914 := hm914.hl
   obtain ⟨ev1018, rfl⟩ := he1018.open
   replace hR := hR0917
   refine k807 _ _ ?_; clear k807
   refine W.seq_k fun _ k1019 => W.seq_k fun _ k1020 => ?_
   refine W.regionT [(0, true)] (by kernel_rfl) ?_
   refine Plan.assign_int rfl rfl <| Plan.nil (k1020 _ _ ?_); clear k1020
   obtain ⟨hI1039, hR01039⟩ := hR
   refine W.cutN (fun e w => True ∧ EnvHas e [(8, .bool ok907)] ∧ St B w0 (⟨some b908, 0, 240, fun q => VU .u8 (m909 q), true⟩ :: ⟨some b908, 240, 256, fun q => VU .u8 (m910 q), true⟩ :: ⟨some b908, 496, 256, fun q => VU .u8 (m911 q), true⟩ :: ⟨some b908, 752, 256, fun q => VU .u8 (m912 q), true⟩ :: ⟨pm914, 0, cm914 * 4, Fm914, true⟩ :: ⟨some b913, 0, 1, fun _ => .slice am914 m914.length cm914, true⟩ :: ⟨some b913, 1, 256, fun q => VU .u8 (m915 q), true⟩ :: ⟨some b913, 257, 256, fun q => VU .u8 (m916 q), true⟩ :: ⟨some b4, 0, 1, fun _ => .pointer (some ⟨b908, 0, none⟩), true⟩ :: ⟨some b4, 1, 1, fun _ => .pointer none, true⟩ :: ⟨some b4, 2, 1, fun _ => .pointer (some ⟨b913, 0, none⟩), true⟩ :: ⟨some b4, 3, 1, fun _ => .pointer none, true⟩ :: ⟨some b4, 4, 1, fun _ => .slice none 0 0, true⟩ :: ⟨some b4, 5, 1, fun _ => .slice none 0 0, true⟩ :: L) w) ?_ ?_
   ·
    refine W.block ?_
    refine W.iter hI1039 (fun (s1039 : ((List Byte) × Nat)) e w => ∃ ax_1037 : Option Addr, ∃ px_1037 : Option Nat, ∃ cx_1037 : Nat, ∃ Fx_1037 : Nat → Byte, EnvHas e [(6, .slice ax_1037 x_542.length cx_1037), (8, .bool ok907), (9, VN s1039.2)] ∧ St B w0 (⟨px_1037, 0, cx_1037, fun q => VU .u8 (Fx_1037 q), true⟩ :: ⟨some b908, 0, 240, fun q => VU .u8 (m909 q), true⟩ :: ⟨some b908, 240, 256, fun q => VU .u8 (m910 q), true⟩ :: ⟨some b908, 496, 256, fun q => VU .u8 (m911 q), true⟩ :: ⟨some b908, 752, 256, fun q => VU .u8 (m912 q), true⟩ :: ⟨pm914, 0, cm914 * 4, Fm914, true⟩ :: ⟨some b913, 0, 1, fun _ => .slice am914 m914.length cm914, true⟩ :: ⟨some b913, 1, 256, fun q => VU .u8 (m915 q), true⟩ :: ⟨some b913, 257, 256, fun q => VU .u8 (m916 q), true⟩ :: ⟨some b4, 0, 1, fun _ => .pointer (some ⟨b908, 0, none⟩), true⟩ :: ⟨some b4, 1, 1, fun _ => .pointer none, true⟩ :: ⟨some b4, 2, 1, fun _ => .pointer (some ⟨b913, 0, none⟩), true⟩ :: ⟨some b4, 3, 1, fun _ => .pointer none, true⟩ :: ⟨some b4, 4, 1, fun _ => .slice none 0 0, true⟩ :: ⟨some b4, 5, 1, fun _ => .slice none 0 0, true⟩ :: L) w ∧ Ow ax_1037 px_1037 x_542.length cx_1037 Fx_1037 s1039.1) ⟨ax_906, px_906, cx_906, Fx_906, (zer (zer (zer zen))), h1018, hx_906⟩ ?_
    rintro ⟨x_1037, i_1038⟩ o1039 hR hx1039 ev1040 wl1040 ⟨ax_1037, px_1037, cx_1037, Fx_1037, he1040, h1040, hx_1037⟩
    obtain ⟨ev1040, rfl⟩ := he1040.open
    unfold lethelaw04_AesExact_l0 at hR
    refine W.seq_k fun _ k1041 => W.seq_k fun _ k1042 => ?_
    refine W.regionT [(0, true), (1, true), (2, true), (3, true)] (by kernel_rfl) ?_
    refine Plan.move_int rfl rfl <| Plan.move_slice rfl rfl <| Plan.len FAesExact.isl28 rfl rfl <| Plan.cmpP (a := (((i_1038 : Nat) : Int) : Int)) (b := (((x_542.length : Nat) : Int) : Int)) (p := i_1038 < x_542.length) rfl rfl rfl rfl icmp_ltN <| Plan.nil (k1042 _ _ ?_); clear k1042
    by_cases hc1043 : i_1038 < x_542.length
    ·
     replace hR := ifT hR hc1043
     refine W.condT (congrArg Value.bool (decide_eq_true hc1043)) ?_
     refine W.skip ?_
     refine k1041 _ _ ?_; clear k1041
     refine W.seq_k fun _ k1044 => ?_
     refine W.block ?_
     refine W.regionT [(0, true), (1, true), (2, true), (3, false)] (by kernel_rfl) ?_
     refine Plan.move_slice rfl rfl <| Plan.move_int rfl rfl ?_
     obtain ⟨hc1045, hR⟩ := hR
     refine Plan.idxVS (j := i_1038) h1040 (hx_1037.bx 0 rfl) FAesExact.sl28 rfl rfl rfl hc1045 ?_
     refine Plan.storeO (j := i_1038) (Y := 85#8) h1040 0 hx_1037 rfl rfl rfl rfl hc1045 FAesExact.sz5 rfl fun w1046 F1046 ho1046 h1046 => ?_
     simp only [zca, zna, zsz, zss] at h1046
     have e1046 : (x_1037.set i_1038 (85#8)).length = x_1037.length := List.length_set
     refine Plan.nil ?_
     refine blockR_norm ?_
     refine k1044 _ _ ?_; clear k1044
     refine W.regionT [(0, true), (1, true), (2, true)] (by kernel_rfl) ?_
     refine Plan.move_int rfl rfl ?_
     obtain ⟨hc1047, hR⟩ := hR
     refine Plan.addN (a := i_1038) (b := 1) rfl rfl rfl (by omega) <| Plan.assign_int rfl rfl <| Plan.nil ?_
     exact iterR_norm ⟨_, hR, ax_1037, px_1037, cx_1037, F1046, (zer (zer (zer zen))), h1046, (show Ow _ _ x_542.length _ _ _ from ho1046)⟩
    ·
     replace hR := ifF hR hc1043
     refine W.condF (congrArg Value.bool (decide_eq_false hc1043)) ?_
     refine W.exit (thenR_exit (iterR_exit (blockR_here ?_)))
     have h1048 := St.pickT (C := [_, _, _, _, _, _, _, _, _, _, _, _, _, _, _]) h1040 [1, 2, 3, 4, 5, 6, 7, 8, 9, 10, 11, 12, 13, 14] (by decide)
     simp only [pick, zfc, zfn, zgz, zgs, zca, zna] at h1048
     exact ⟨trivial, (zer zen), h1048⟩
   ·
    rintro ev1049 wl1049 ⟨hy1049, he1049, h1049⟩
    obtain ⟨ev1049, rfl⟩ := he1049.open
    replace hR := hR01039
    refine k1019 _ _ ?_; clear k1019
    refine W.seq_k fun _ k1050 => W.regionT [(0, true), (1, true)] (by kernel_rfl) ?_
    refine Plan.move_bool rfl rfl <| Plan.assign_bool rfl rfl <| Plan.nil (k1050 _ _ ?_); clear k1050
    refine W.ret (blockR_ret (thenR_ret (finR_ret ?_)))
    refine RetOk.mk (.tmp_bool rfl .nil) ?_
    exact ⟨ok907, m909, m910, m911, m912, m914, m915, m916, hR, b908, b913, m914.length, am914, pm914, cm914, Fm914, rfl, h1049, hm914⟩
 ·
  rintro _ w1051 ⟨y_script527, y_m529, y_m530, y_m531, y_m532, y_m534, y_m535, y_m536, ⟨hy1051_0, hy1051_1, hy1051_2, hy1051_3, hy1051_4, hy1051_5, hy1051_6, hy1051_7⟩, b528, b533, n_m534, am534, pm534, cm534, Fm534, rfl, h1051, hm534⟩
  subst hy1051_0
  subst hy1051_1
  subst hy1051_2
  subst hy1051_3
  subst hy1051_4
  subst hy1051_5
  subst hy1051_6
  subst hy1051_7
  obtain rfl : List.length (α := (Nat → BitVec 8)) m534 = n_m534 := hm534.hl
  replace hR := hR0526
  refine ⟨_, rfl, .inl ⟨PIn.keep PIn.nil h1051, ?_⟩⟩
  refine Plan.assign_bool rfl rfl <| Plan.nil (k10 _ _ ?_); clear k10
  refine W.seq_k fun _ k1052 => W.regionT [(0, true), (1, true)] (by kernel_rfl) ?_
  refine Plan.move_bool rfl rfl <| Plan.not rfl rfl <| Plan.nil (k1052 _ _ ?_); clear k1052
  by_cases hc1053 : script527 = true
  ·
   replace hR := ifT hR hc1053
   refine W.condF (congrArg Value.bool (congrArg Bool.not hc1053)) ?_
   refine W.skip ?_
   refine blockR_norm ?_
   refine k9 _ _ ?_; clear k9
   refine W.regionT [(0, true), (1, true), (2, true)] (by kernel_rfl) ?_
   refine Plan.move_int rfl rfl <| Plan.addN (a := 0) (b := 1) rfl rfl rfl (by omega) <| Plan.assign_int rfl rfl <| Plan.nil ?_
   refine UL.nextT ?_
   refine W.seq_k fun _ k1054 => W.seq_k fun _ k1055 => ?_
   refine W.regionT [(0, true), (1, true)] (by kernel_rfl) ?_
   refine Plan.move_int rfl rfl <| Plan.cmpP (a := (1 : Int)) (b := (2 : Int)) (p := (1 : Nat) < 2) rfl rfl rfl rfl icmp_ltN <| Plan.nil (k1055 _ _ ?_); clear k1055
   refine W.condT rfl ?_
   refine W.skip ?_
   refine k1054 _ _ ?_; clear k1054
   refine W.seq_k fun _ k1056 => ?_
   refine W.block ?_
   refine W.seq_k fun _ k1057 => W.regionT [(0, true), (1, true), (2, false), (3, true), (4, false), (5, true)] (by kernel_rfl) ?_
   refine Plan.move_ptr rfl rfl <| Plan.move_int rfl rfl ?_
   refine Plan.makeO (len := 32) (c := 32) h1051 FAesExact.el28 rfl rfl rfl (by omega) (by omega) (fun _ => EffO.keep PIn.nil) fun b1058 w1058 hb1058 ho1058 h1058 => ?_
   refine Plan.buildP (ps := [(1, fun _ => VN 3), (1, fun _ => VN 1), (1, fun _ => VU .u8 (0#8)), (1, fun _ => VU .u8 (0#8)), (1, fun _ => VU .u64 (0#64)), (16, fun q => VU .u8 ((fun _ => 0#8) q)), (1, fun _ => .slice (some ⟨b1058, 0, none⟩) ((List.replicate 32 0#8).length) 32)]) FAesExact.pl56 (by decide) FAesExact.z56 rfl rfl (.one [] [(1, fun _ => VN 0), (1, fun _ => VU .u8 (0#8)), (1, fun _ => VU .u8 (0#8)), (1, fun _ => VU .u64 (0#64)), (16, fun q => VU .u8 ((fun _ => 0#8) q)), (1, fun _ => .slice none 0 0)] (fun _ => VN 0) rfl rfl (.one [(1, fun _ => VN 3)] [(1, fun _ => VU .u8 (0#8)), (1, fun _ => VU .u8 (0#8)), (1, fun _ => VU .u64 (0#64)), (16, fun q => VU .u8 ((fun _ => 0#8) q)), (1, fun _ => .slice none 0 0)] (fun _ => VN 0) rfl rfl (.one [(1, fun _ => VN 3), (1, fun _ => VN 1), (1, fun _ => VU .u8 (0#8)), (1, fun _ => VU .u8 (0#8)), (1, fun _ => VU .u64 (0#64)), (16, fun q => VU .u8 ((fun _ => 0#8) q))] [] (fun _ => .slice none 0 0) rfl rfl .nil))) ?_
   obtain ⟨script1574, m1576, m1577, m1578, m1579, m1581, m1582, m1583, hX1573, hR01573⟩ := hR
   refine Plan.call (vs := [.pointer (some ⟨b4, 0, none⟩), AG [(1, fun _ => VN 3), (1, fun _ => VN 1), (1, fun _ => VU .u8 (0#8)), (1, fun _ => VU .u8 (0#8)), (1, fun _ => VU .u64 (0#64)), (16, fun q => VU .u8 ((fun _ => 0#8) q)), (1, fun _ => .slice (some ⟨b1058, 0, none⟩) ((List.replicate 32 0#8).length) 32)]]) (R := fun e w => ∃ y_script1574 : Bool, ∃ y_m1576 : Nat → BitVec 8, ∃ y_m1577 : Nat → BitVec 8, ∃ y_m1578 : Nat → BitVec 8, ∃ y_m1579 : Nat → BitVec 8, ∃ y_m1581 : List (Nat → BitVec 8), ∃ y_m1582 : Nat → BitVec 8, ∃ y_m1583 : Nat → BitVec 8, (script1574 = y_script1574 ∧ m1576 = y_m1576 ∧ m1577 = y_m1577 ∧ m1578 = y_m1578 ∧ m1579 = y_m1579 ∧ m1581 = y_m1581 ∧ m1582 = y_m1582 ∧ m1583 = y_m1583) ∧ ∃ b1575 : Nat, ∃ b1580 : Nat, ∃ n_m1581 : Nat, ∃ am1581 : Option Addr, ∃ pm1581 : Option Nat, ∃ cm1581 : Nat, ∃ Fm1581 : Nat → Value, e = .returned (.bool y_script1574) ∧ St B w0 (⟨some b1575, 0, 240, fun q => VU .u8 (y_m1576 q), true⟩ :: ⟨some b1575, 240, 256, fun q => VU .u8 (y_m1577 q), true⟩ :: ⟨some b1575, 496, 256, fun q => VU .u8 (y_m1578 q), true⟩ :: ⟨some b1575, 752, 256, fun q => VU .u8 (y_m1579 q), true⟩ :: ⟨pm1581, 0, cm1581 * 4, Fm1581, true⟩ :: ⟨some b1580, 0, 1, fun _ => .slice am1581 n_m1581 cm1581, true⟩ :: ⟨some b1580, 1, 256, fun q => VU .u8 (y_m1582 q), true⟩ :: ⟨some b1580, 257, 256, fun q => VU .u8 (y_m1583 q), true⟩ :: ⟨some b528, 0, 240, fun q => VU .u8 (m529 q), true⟩ :: ⟨some b528, 240, 256, fun q => VU .u8 (m530 q), true⟩ :: ⟨some b528, 496, 256, fun q => VU .u8 (m531 q), true⟩ :: ⟨some b528, 752, 256, fun q => VU .u8 (m532 q), true⟩ :: ⟨pm534, 0, cm534 * 4, Fm534, true⟩ :: ⟨some b533, 0, 1, fun _ => .slice am534 m534.length cm534, true⟩ :: ⟨some b533, 1, 256, fun q => VU .u8 (m535 q), true⟩ :: ⟨some b533, 257, 256, fun q => VU .u8 (m536 q), true⟩ :: ⟨some b4, 0, 1, fun _ => .pointer (some ⟨b528, 0, none⟩), true⟩ :: ⟨some b4, 1, 1, fun _ => .pointer (some ⟨b1575, 0, none⟩), true⟩ :: ⟨some b4, 2, 1, fun _ => .pointer (some ⟨b533, 0, none⟩), true⟩ :: ⟨some b4, 3, 1, fun _ => .pointer (some ⟨b1580, 0, none⟩), true⟩ :: ⟨some b4, 4, 1, fun _ => .slice none 0 0, true⟩ :: ⟨some b4, 5, 1, fun _ => .slice none 0 0, true⟩ :: L) w ∧ LO D76 [] am1581 pm1581 n_m1581 cm1581 Fm1581 y_m1581) rfl FAesExact.call21 rfl ?_ ?_
   ·
    replace hR := hX1573
    refine W.enter 185 Try.func21 rfl rfl rfl ?_
    refine W.seq_k fun _ k1584 => W.regionT [(0, false), (1, true)] (by kernel_rfl) ?_
    refine Plan.boxA h1058 rfl rfl PIn.nil fun b1585 w1585 hb1585 h1585 => ?_
    simp only [rngs, Nat.zero_add, Nat.reduceAdd, zca, zna] at h1585
    refine Plan.assign_bool rfl rfl <| Plan.nil (k1584 _ _ ?_); clear k1584
    refine W.seq_k fun _ k1586 => W.regionT [(0, true), (1, true), (2, true), (3, true)] (by kernel_rfl) ?_
    refine Plan.fieldAddr 1 FAesExact.fld56_1 rfl rfl <| Plan.load0 h1585 1 rfl rfl rfl (by omega) FAesExact.sc3 <| Plan.andN (a := 1) (b := 1) rfl rfl rfl (by omega) <| Plan.assign_int rfl rfl <| Plan.nil (k1586 _ _ ?_); clear k1586
    refine W.seq_k fun _ k1587 => W.regionT [(0, true), (1, true), (2, false), (3, true)] (by kernel_rfl) ?_
    refine Plan.fieldAddr 21 FAesExact.fld56_6 rfl rfl <| Plan.load0 h1585 6 rfl rfl rfl (by omega) FAesExact.sc28 ?_
    obtain ⟨x_1589, hr1588, hR⟩ := hR
    refine Plan.call (vs := [.slice (some ⟨b1058, 0, none⟩) ((List.replicate 32 0#8).length) 32]) rfl FAesExact.call27 rfl (lethelaw04_Room_ok (by exact (ho1058.bx 7 rfl)) hr1588 h1585) ?_
    rintro _ w1595 ⟨ay0_1590, py0_1591, ny0_1592, cy0_1593, Fy0_1594, rfl, h1595, hf1595_0⟩
    obtain rfl := hf1595_0.hl
    refine ⟨_, rfl, .inr ⟨rfl, ?_⟩⟩
    refine Plan.assign_slice rfl rfl <| Plan.nil (k1587 _ _ ?_); clear k1587
    refine W.seq_k fun _ k1596 => W.regionT [(0, true), (1, true), (2, true), (3, true), (4, true), (5, true)] (by kernel_rfl) ?_
    refine Plan.move_slice rfl rfl <| Plan.fieldAddr 21 FAesExact.fld56_6 rfl rfl <| Plan.load0 h1595 7 rfl rfl rfl (by omega) FAesExact.sc28 <| Plan.len FAesExact.isl28 rfl rfl ?_
    rw [List.length_replicate (n := 32) (a := (0#8 : Byte))]
    have hrl1597 := ho1058; rw [List.length_replicate (n := 32) (a := (0#8 : Byte))] at hrl1597
    obtain ⟨hc1598, hR⟩ := hR
    have hm1599 := hf1595_0.hc
    refine Plan.slSl (lo := 0) (hi := 32) FAesExact.sl28 rfl rfl rfl ⟨_, rfl⟩ (by omega) <| Plan.assign_slice rfl rfl <| Plan.nil (k1596 _ _ ?_); clear k1596
    refine W.seq_k fun _ k1600 => W.regionT [(0, true)] (by kernel_rfl) ?_
    refine Plan.assign_bool rfl rfl <| Plan.nil (k1600 _ _ ?_); clear k1600
    refine W.seq_k fun _ k1601 => W.seq_k fun _ k1850 => ?_
    refine W.regionT [(0, true), (1, true)] (by kernel_rfl) ?_
    refine Plan.fieldAddr0 FAesExact.fld56_0 rfl rfl <| Plan.load0 h1595 1 rfl rfl rfl (by omega) FAesExact.sc3 <| Plan.nil (k1850 _ _ ?_); clear k1850
    refine W.block ?_
    refine W.seq_k fun _ k1851 => W.regionT [(0, true), (1, true)] (by kernel_rfl) ?_
    refine Plan.cmpP (a := (3 : Int)) (b := (1 : Int)) (p := (3 : Nat) = 1) rfl rfl rfl rfl icmp_eqN <| Plan.assign_bool rfl rfl <| Plan.nil (k1851 _ _ ?_); clear k1851
    refine W.condF rfl ?_
    refine W.seq_k fun _ k1852 => W.regionT [(0, true), (1, true)] (by kernel_rfl) ?_
    refine Plan.cmpP (a := (3 : Int)) (b := (2 : Int)) (p := (3 : Nat) = 2) rfl rfl rfl rfl icmp_eqN <| Plan.assign_bool rfl rfl <| Plan.nil (k1852 _ _ ?_); clear k1852
    refine W.condF rfl ?_
    refine W.seq_k fun _ k1853 => W.regionT [(0, true), (1, true)] (by kernel_rfl) ?_
    refine Plan.cmpP (a := (3 : Int)) (b := (3 : Int)) (p := (3 : Nat) = 3) rfl rfl rfl rfl icmp_eqN <| Plan.assign_bool rfl rfl <| Plan.nil (k1853 _ _ ?_); clear k1853
    refine W.condT rfl ?_
    refine W.seq_k fun _ k1854 => ?_
    obtain ⟨x_1953, ok1954, m1956, m1957, m1958, m1959, m1961, m1962, m1963, hX1964, hR01964⟩ := hR
    refine W.cutN (fun e w => ∃ y_x_1953 : List Byte, ∃ y_ok1954 : Bool, ∃ y_m1956 : Nat → BitVec 8, ∃ y_m1957 : Nat → BitVec 8, ∃ y_m1958 : Nat → BitVec 8, ∃ y_m1959 : Nat → BitVec 8, ∃ y_m1961 : List (Nat → BitVec 8), ∃ y_m1962 : Nat → BitVec 8, ∃ y_m1963 : Nat → BitVec 8, (x_1953 = y_x_1953 ∧ ok1954 = y_ok1954 ∧ m1956 = y_m1956 ∧ m1957 = y_m1957 ∧ m1958 = y_m1958 ∧ m1959 = y_m1959 ∧ m1961 = y_m1961 ∧ m1962 = y_m1962 ∧ m1963 = y_m1963) ∧ ∃ ax_1953 : Option Addr, ∃ px_1953 : Option Nat, ∃ cx_1953 : Nat, ∃ Fx_1953 : Nat → Byte, ∃ b1955 : Nat, ∃ b1960 : Nat, ∃ n_m1961 : Nat, ∃ am1961 : Option Addr, ∃ pm1961 : Option Nat, ∃ cm1961 : Nat, ∃ Fm1961 : Nat → Value, EnvHas e [(6, .slice ax_1953 x_1589.length cx_1953), (8, .bool y_ok1954)] ∧ St B w0 (⟨px_1953, 0, cx_1953, fun q => VU .u8 (Fx_1953 q), true⟩ :: ⟨some b1955, 0, 240, fun q => VU .u8 (y_m1956 q), true⟩ :: ⟨some b1955, 240, 256, fun q => VU .u8 (y_m1957 q), true⟩ :: ⟨some b1955, 496, 256, fun q => VU .u8 (y_m1958 q), true⟩ :: ⟨some b1955, 752, 256, fun q => VU .u8 (y_m1959 q), true⟩ :: ⟨pm1961, 0, cm1961 * 4, Fm1961, true⟩ :: ⟨some b1960, 0, 1, fun _ => .slice am1961 n_m1961 cm1961, true⟩ :: ⟨some b1960, 1, 256, fun q => VU .u8 (y_m1962 q), true⟩ :: ⟨some b1960, 257, 256, fun q => VU .u8 (y_m1963 q), true⟩ :: ⟨some b528, 0, 240, fun q => VU .u8 (m529 q), true⟩ :: ⟨some b528, 240, 256, fun q => VU .u8 (m530 q), true⟩ :: ⟨some b528, 496, 256, fun q => VU .u8 (m531 q), true⟩ :: ⟨some b528, 752, 256, fun q => VU .u8 (m532 q), true⟩ :: ⟨pm534, 0, cm534 * 4, Fm534, true⟩ :: ⟨some b533, 0, 1, fun _ => .slice am534 m534.length cm534, true⟩ :: ⟨some b533, 1, 256, fun q => VU .u8 (m535 q), true⟩ :: ⟨some b533, 257, 256, fun q => VU .u8 (m536 q), true⟩ :: ⟨some b4, 0, 1, fun _ => .pointer (some ⟨b528, 0, none⟩), true⟩ :: ⟨some b4, 1, 1, fun _ => .pointer (some ⟨b1955, 0, none⟩), true⟩ :: ⟨some b4, 2, 1, fun _ => .pointer (some ⟨b533, 0, none⟩), true⟩ :: ⟨some b4, 3, 1, fun _ => .pointer (some ⟨b1960, 0, none⟩), true⟩ :: ⟨some b4, 4, 1, fun _ => .slice none 0 0, true⟩ :: ⟨some b4, 5, 1, fun _ => .slice none 0 0, true⟩ :: L) w ∧ Ow ax_1953 px_1953 x_1589.length cx_1953 Fx_1953 y_x_1953 ∧ LO D76 [] am1961 pm1961 n_m1961 cm1961 Fm1961 y_m1961) ?_ ?_
    ·
     replace hR := hX1964
     refine W.regionT [(0, true), (1, true), (2, true), (3, false), (4, true), (5, true), (6, true), (7, true), (8, false), (9, true), (10, true)] (by kernel_rfl) ?_
     refine Plan.move_ptr rfl rfl <| Plan.loadA h1595 rfl rfl (.cons 1 rfl (.cons 2 rfl (.cons 3 rfl (.cons 4 rfl (.cons 5 rfl (.cons 6 rfl (.cons 7 rfl .nil))))))) FAesExact.agg56 <| Plan.move_slice rfl rfl ?_
     obtain ⟨t2006, m2008, m2009, m2010, m2011, m2013, m2014, m2015, hX2005, hR02005⟩ := hR
     refine Plan.call (vs := [.pointer (some ⟨b4, 0, none⟩), AG [(1, fun _ => VN 3), (1, fun _ => VN 1), (1, fun _ => VU .u8 (0#8)), (1, fun _ => VU .u8 (0#8)), (1, fun _ => VU .u64 (0#64)), (16, fun q => VU .u8 ((fun _ => 0#8) q)), (1, fun _ => .slice (some ⟨b1058, 0, none⟩) 32 32)], .slice (if cy0_1593 = 0 then (ay0_1590 : Option Addr) else (ay0_1590 : Option Addr).map (·.add (0 * 1))) (32 - 0) (cy0_1593 - 0)]) (R := fun e w => ∃ y_t2006 : Bool, ∃ y_m2008 : Nat → BitVec 8, ∃ y_m2009 : Nat → BitVec 8, ∃ y_m2010 : Nat → BitVec 8, ∃ y_m2011 : Nat → BitVec 8, ∃ y_m2013 : List (Nat → BitVec 8), ∃ y_m2014 : Nat → BitVec 8, ∃ y_m2015 : Nat → BitVec 8, (t2006 = y_t2006 ∧ m2008 = y_m2008 ∧ m2009 = y_m2009 ∧ m2010 = y_m2010 ∧ m2011 = y_m2011 ∧ m2013 = y_m2013 ∧ m2014 = y_m2014 ∧ m2015 = y_m2015) ∧ ∃ b2007 : Nat, ∃ b2012 : Nat, ∃ n_m2013 : Nat, ∃ am2013 : Option Addr, ∃ pm2013 : Option Nat, ∃ cm2013 : Nat, ∃ Fm2013 : Nat → Value, e = .returned (.bool y_t2006) ∧ St B w0 (⟨some b2007, 0, 240, fun q => VU .u8 (y_m2008 q), true⟩ :: ⟨some b2007, 240, 256, fun q => VU .u8 (y_m2009 q), true⟩ :: ⟨some b2007, 496, 256, fun q => VU .u8 (y_m2010 q), true⟩ :: ⟨some b2007, 752, 256, fun q => VU .u8 (y_m2011 q), true⟩ :: ⟨pm2013, 0, cm2013 * 4, Fm2013, true⟩ :: ⟨some b2012, 0, 1, fun _ => .slice am2013 n_m2013 cm2013, true⟩ :: ⟨some b2012, 1, 256, fun q => VU .u8 (y_m2014 q), true⟩ :: ⟨some b2012, 257, 256, fun q => VU .u8 (y_m2015 q), true⟩ :: ⟨py0_1591, 0, cy0_1593, fun q => VU .u8 (Fy0_1594 q), true⟩ :: ⟨some b1585, 0, 1, fun _ => VN 3, true⟩ :: ⟨some b1585, 1, 1, fun _ => VN 1, true⟩ :: ⟨some b1585, 2, 1, fun _ => VU .u8 (0#8), true⟩ :: ⟨some b1585, 3, 1, fun _ => VU .u8 (0#8), true⟩ :: ⟨some b1585, 4, 1, fun _ => VU .u64 (0#64), true⟩ :: ⟨some b1585, 5, 16, fun q => VU .u8 ((fun _ => 0#8) q), true⟩ :: ⟨some b1585, 21, 1, fun _ => .slice (some ⟨b1058, 0, none⟩) 32 32, true⟩ :: ⟨some b1058, 0, 32, fun q => VU .u8 ((fun _ => 0#8) q), true⟩ :: ⟨some b528, 0, 240, fun q => VU .u8 (m529 q), true⟩ :: ⟨some b528, 240, 256, fun q => VU .u8 (m530 q), true⟩ :: ⟨some b528, 496, 256, fun q => VU .u8 (m531 q), true⟩ :: ⟨some b528, 752, 256, fun q => VU .u8 (m532 q), true⟩ :: ⟨pm534, 0, cm534 * 4, Fm534, true⟩ :: ⟨some b533, 0, 1, fun _ => .slice am534 m534.length cm534, true⟩ :: ⟨some b533, 1, 256, fun q => VU .u8 (m535 q), true⟩ :: ⟨some b533, 257, 256, fun q => VU .u8 (m536 q), true⟩ :: ⟨some b4, 0, 1, fun _ => .pointer (some ⟨b528, 0, none⟩), true⟩ :: ⟨some b4, 1, 1, fun _ => .pointer (some ⟨b2007, 0, none⟩), true⟩ :: ⟨some b4, 2, 1, fun _ => .pointer (some ⟨b533, 0, none⟩), true⟩ :: ⟨some b4, 3, 1, fun _ => .pointer (some ⟨b2012, 0, none⟩), true⟩ :: ⟨some b4, 4, 1, fun _ => .slice none 0 0, true⟩ :: ⟨some b4, 5, 1, fun _ => .slice none 0 0, true⟩ :: L) w ∧ LO D76 [] am2013 pm2013 n_m2013 cm2013 Fm2013 y_m2013) rfl FAesExact.call32 rfl ?_ ?_
     ·
      replace hR := hX2005
      refine W.enter 48 Try.func32 rfl rfl rfl ?_
      refine W.seq_k fun _ k2016 => W.regionT [(0, false), (1, true)] (by kernel_rfl) ?_
      refine Plan.boxA h1595 rfl rfl PIn.nil fun b2017 w2017 hb2017 h2017 => ?_
      simp only [rngs, Nat.zero_add, Nat.reduceAdd, zca, zna] at h2017
      refine Plan.assign_bool rfl rfl <| Plan.nil (k2016 _ _ ?_); clear k2016
      refine W.seq_k fun _ k2018 => W.regionT [(0, true), (1, true), (2, true), (3, true)] (by kernel_rfl) ?_
      refine Plan.fieldAddr 1 FAesExact.fld56_1 rfl rfl <| Plan.load0 h2017 1 rfl rfl rfl (by omega) FAesExact.sc3 <| Plan.andN (a := 1) (b := 1) rfl rfl rfl (by omega) <| Plan.assign_int rfl rfl <| Plan.nil (k2018 _ _ ?_); clear k2018
      refine W.seq_k fun _ k2019 => W.regionT [(0, true), (1, false), (2, true), (3, true), (4, true), (5, true), (6, true)] (by kernel_rfl) ?_
      refine Plan.move_slice rfl rfl ?_
      rcases hR with ⟨x_2021, hr2020, hR⟩ | ⟨x_2022, x_2023, x_2024, x_2025, x_2026, hr2020, hR⟩
      ·
       refine Plan.call (vs := [.slice (if cy0_1593 = 0 then (ay0_1590 : Option Addr) else (ay0_1590 : Option Addr).map (·.add (0 * 1))) (32 - 0) (cy0_1593 - 0)]) rfl FAesExact.call19 rfl (aes_New_ok (by exact ((hf1595_0.bx 7 rfl).seg (lo := 0) (hi := 32) hc1598)) hr2020 h2017) ?_
       rintro _ w2027 ⟨rfl, h2027⟩
       refine ⟨_, rfl, .inl ⟨PIn.keep PIn.nil h2027, ?_⟩⟩
       refine Plan.move_tuple rfl rfl <| Plan.extract_ptr rfl rfl rfl <| Plan.extract_int rfl rfl rfl <| Plan.assign_ptr rfl rfl <| Plan.assign_int rfl rfl <| Plan.nil (k2019 _ _ ?_); clear k2019
       refine W.seq_k fun _ k2028 => W.seq_k fun _ k2029 => ?_
       refine W.regionT [(0, true), (1, true), (2, true), (3, true)] (by kernel_rfl) ?_
       refine Plan.fieldAddr 21 FAesExact.fld56_6 rfl rfl <| Plan.load0 h2027 6 rfl rfl rfl (by omega) FAesExact.sc28 <| Plan.len FAesExact.isl28 rfl rfl <| Plan.cmpP (a := (32 : Int)) (b := (32 : Int)) (p := (32 : Nat) ≠ 32) rfl rfl rfl rfl icmp_neN <| Plan.nil (k2029 _ _ ?_); clear k2029
       refine W.condF rfl ?_
       refine W.skip ?_
       refine k2028 _ _ ?_; clear k2028
       refine W.seq_k fun _ k2030 => W.regionT [(0, true), (1, true), (2, true), (3, true), (4, true), (5, true), (6, false)] (by kernel_rfl) ?_
       refine Plan.move_ptr rfl rfl <| Plan.move_int rfl rfl <| Plan.move_ptr rfl rfl <| Plan.nilCheck rfl rfl <| Plan.fieldAddr0 FAesExact.fld53_0 rfl rfl <| Plan.idxArrO (j := 1) (o' := 1) FAesExact.arr46 rfl rfl rfl (by omega) rfl ?_
       exact hR.elim
      ·
       refine Plan.call (vs := [.slice (if cy0_1593 = 0 then (ay0_1590 : Option Addr) else (ay0_1590 : Option Addr).map (·.add (0 * 1))) (32 - 0) (cy0_1593 - 0)]) rfl FAesExact.call19 rfl (aes_New_ok (by exact ((hf1595_0.bx 7 rfl).seg (lo := 0) (hi := 32) hc1598)) hr2020 h2017) ?_
       rintro _ w2033 ⟨b0_2032, rfl, h2033⟩
       refine ⟨_, rfl, .inl ⟨PIn.keep PIn.nil h2033, ?_⟩⟩
       refine Plan.move_tuple rfl rfl <| Plan.extract_ptr rfl rfl rfl <| Plan.extract_int rfl rfl rfl <| Plan.assign_ptr rfl rfl <| Plan.assign_int rfl rfl <| Plan.nil (k2019 _ _ ?_); clear k2019
       refine W.seq_k fun _ k2034 => W.seq_k fun _ k2035 => ?_
       refine W.regionT [(0, true), (1, true), (2, true), (3, true)] (by kernel_rfl) ?_
       refine Plan.fieldAddr 21 FAesExact.fld56_6 rfl rfl <| Plan.load0 h2033 10 rfl rfl rfl (by omega) FAesExact.sc28 <| Plan.len FAesExact.isl28 rfl rfl <| Plan.cmpP (a := (32 : Int)) (b := (32 : Int)) (p := (32 : Nat) ≠ 32) rfl rfl rfl rfl icmp_neN <| Plan.nil (k2035 _ _ ?_); clear k2035
       refine W.condF rfl ?_
       refine W.skip ?_
       refine k2034 _ _ ?_; clear k2034
       refine W.seq_k fun _ k2036 => W.regionT [(0, true), (1, true), (2, true), (3, true), (4, true), (5, true), (6, false)] (by kernel_rfl) ?_
       refine Plan.move_ptr rfl rfl <| Plan.move_int rfl rfl <| Plan.move_ptr rfl rfl <| Plan.nilCheck rfl rfl <| Plan.fieldAddr0 FAesExact.fld53_0 rfl rfl <| Plan.idxArrO (j := 1) (o' := 1) FAesExact.arr46 rfl rfl rfl (by omega) rfl ?_
       refine Plan.storeC h2033 29 rfl rfl rfl rfl rfl FAesExact.sz30 rfl fun w2037 h2037 => ?_
       simp only [zca, zna, zsz, zss] at h2037
       refine Plan.nil (k2036 _ _ ?_); clear k2036
       refine W.seq_k fun _ k2038 => ?_
       refine W.regionD FAesExact.mixed [(0, true), (1, true), (2, true), (3, true), (5, true), (6, true), (4, false), (7, true), (8, false)] (by kernel_rfl) ?_
       have h2039 := h2037.drew
       refine Plan.move_ptr rfl rfl <| Plan.move_int rfl rfl <| Plan.fieldAddr 21 FAesExact.fld56_6 rfl rfl <| Plan.load0 h2039 10 rfl rfl rfl (by omega) FAesExact.sc28 <| Plan.nilCheck rfl rfl <| Plan.fieldAddr 2 FAesExact.fld53_1 rfl rfl ?_
       rcases hR with ⟨hr2040, hR⟩ | ⟨x_2041, x_2042, x_2043, hr2040, hR⟩
       ·
        refine Plan.call (vs := [.slice (some ⟨b1058, 0, none⟩) 32 32]) rfl FAesExact.call38 rfl (letheref04_New_ok (by exact (hrl1597.bx 19 rfl)) hr2040 h2039) ?_
        rintro _ w2044 ⟨rfl, h2044⟩
        refine ⟨_, rfl, .inr ⟨rfl, ?_⟩⟩
        refine Plan.idxArrO (j := 1) (o' := 3) FAesExact.arr48 rfl rfl rfl (by omega) rfl ?_
        exact hR.elim
       ·
        refine Plan.call (vs := [.slice (some ⟨b1058, 0, none⟩) 32 32]) rfl FAesExact.call38 rfl (letheref04_New_ok (by exact (hrl1597.bx 19 rfl)) hr2040 h2039) ?_
        rintro _ w2052 ⟨b0_2046, aw0_0_2047, pw0_0_2048, nw0_0_2049, cw0_0_2050, Fw0_0_2051, rfl, h2052, hf2052_0⟩
        try dsimp only at hf2052_0
        obtain rfl := hf2052_0.hl
        refine ⟨_, rfl, .inr ⟨rfl, ?_⟩⟩
        refine Plan.idxArrO (j := 1) (o' := 3) FAesExact.arr48 rfl rfl rfl (by omega) rfl ?_
        refine Plan.storeC h2052 35 rfl rfl rfl rfl rfl FAesExact.sz47 rfl fun w2053 h2053 => ?_
        simp only [zca, zna, zsz, zss] at h2053
        refine Plan.nil (k2038 _ _ ?_); clear k2038
        refine W.seq_k fun _ k2054 => W.regionT [(0, true), (1, true), (2, true), (3, true), (4, true), (5, true), (6, true)] (by kernel_rfl) ?_
        refine Plan.move_int rfl rfl ?_
        by_cases hc2055 : x_2026 = 0
        ·
         replace hR := ifT hR hc2055
         refine Plan.cmpV (a := (((x_2026 : Nat) : Int) : Int)) (b := (0 : Int)) (p := x_2026 = 0) (v := true) rfl rfl rfl rfl icmp_eqN (decide_eq_true hc2055) <| Plan.move_bool rfl rfl <| Plan.move_ptr rfl rfl <| Plan.neNil (b := true) FAesExact.ptr30 rfl rfl rfl rfl <| Plan.pickTb rfl rfl rfl <| Plan.assign_bool rfl rfl <| Plan.nil (k2054 _ _ ?_); clear k2054
         refine W.ret (finR_ret ?_)
         have h2056 := St.pickT (C := [_, _, _, _, _, _, _, _, _, _, _, _, _, _, _, _, _, _, _, _, _, _, _, _, _, _, _, _, _, _, _, _, _, _, _, _, _, _]) h2053 [4, 5, 6, 7, 1, 0, 2, 3, 15, 16, 17, 18, 19, 20, 21, 22, 23, 24, 25, 26, 27, 28, 29, 30, 31, 32, 33, 34, 35, 36, 37] (by decide)
         simp only [pick, zfc, zfn, zgz, zgs, zca, zna] at h2056
         refine RetOk.mk (.tmp_bool rfl .nil) ?_
         exact ⟨true, x_2022, x_2023, x_2024, x_2025, x_2041, x_2042, x_2043, hR, b0_2032, b0_2046, x_2041.length, aw0_0_2047, pw0_0_2048, cw0_0_2050, Fw0_0_2051, rfl, h2056, hf2052_0⟩
        ·
         replace hR := ifF hR hc2055
         refine Plan.cmpV (a := (((x_2026 : Nat) : Int) : Int)) (b := (0 : Int)) (p := x_2026 = 0) (v := false) rfl rfl rfl rfl icmp_eqN (decide_eq_false hc2055) <| Plan.move_bool rfl rfl <| Plan.passed rfl <| Plan.passed rfl <| Plan.pickFb rfl rfl rfl <| Plan.assign_bool rfl rfl <| Plan.nil (k2054 _ _ ?_); clear k2054
         refine W.ret (finR_ret ?_)
         have h2057 := St.pickT (C := [_, _, _, _, _, _, _, _, _, _, _, _, _, _, _, _, _, _, _, _, _, _, _, _, _, _, _, _, _, _, _, _, _, _, _, _, _, _]) h2053 [4, 5, 6, 7, 1, 0, 2, 3, 15, 16, 17, 18, 19, 20, 21, 22, 23, 24, 25, 26, 27, 28, 29, 30, 31, 32, 33, 34, 35, 36, 37] (by decide)
         simp only [pick, zfc, zfn, zgz, zgs, zca, zna] at h2057
         refine RetOk.mk (.tmp_bool rfl .nil) ?_
         exact ⟨false, x_2022, x_2023, x_2024, x_2025, x_2041, x_2042, x_2043, hR, b0_2032, b0_2046, x_2041.length, aw0_0_2047, pw0_0_2048, cw0_0_2050, Fw0_0_2051, rfl, h2057, hf2052_0⟩
     ·
      rintro _ w2058 ⟨y_t2006, y_m2008, y_m2009, y_m2010, y_m2011, y_m2013, y_m2014, y_m2015, ⟨hy2058_0, hy2058_1, hy2058_2, hy2058_3, hy2058_4, hy2058_5, hy2058_6, hy2058_7⟩, b2007, b2012, n_m2013, am2013, pm2013, cm2013, Fm2013, rfl, h2058, hm2013⟩
      subst hy2058_0
      subst hy2058_1
      subst hy2058_2
      subst hy2058_3
      subst hy2058_4
      subst hy2058_5
      subst hy2058_6
      subst hy2058_7
      obtain rfl : List.length (α := (Nat → BitVec 8)) m2013 = n_m2013 := hm2013.hl
      replace hR := hR02005
      refine ⟨_, rfl, .inr ⟨rfl, ?_⟩⟩
      by_cases hc2059 : t2006 = true
      ·
       replace hR := ifT hR hc2059
       obtain rfl : t2006 = true := hc2059
       refine Plan.move_bool rfl rfl <| Plan.move_slice rfl rfl <| Plan.fieldAddr 21 FAesExact.fld56_6 rfl rfl <| Plan.load0 h2058 15 rfl rfl rfl (by omega) FAesExact.sc28 ?_
       obtain ⟨x_2061, hr2060, hR⟩ := hR
       refine Plan.call (vs := [.slice ay0_1590 x_1589.length cy0_1593, .slice (some ⟨b1058, 0, none⟩) 32 32]) rfl FAesExact.call33 rfl (lethelaw04_Kept_ok (by exact (hf1595_0.bx 8 rfl)) (by exact (hrl1597.bx 16 rfl)) hr2060 h2058) ?_
       rintro _ w2062 ⟨rfl, h2062⟩
       refine ⟨_, rfl, .inr ⟨rfl, ?_⟩⟩
       refine Plan.pickTb rfl rfl rfl <| Plan.assign_bool rfl rfl <| Plan.nil ?_
       have h2063 := St.pickT (C := [_, _, _, _, _, _, _, _, _, _, _, _, _, _, _, _, _, _, _, _, _, _, _, _, _, _, _, _, _, _, _]) h2062 [8, 0, 1, 2, 3, 4, 5, 6, 7, 17, 18, 19, 20, 21, 22, 23, 24, 25, 26, 27, 28, 29, 30] (by decide)
       simp only [pick, zfc, zfn, zgz, zgs, zca, zna] at h2063
       exact ⟨x_1589, x_2061, m2008, m2009, m2010, m2011, m2013, m2014, m2015, hR, ay0_1590, py0_1591, cy0_1593, Fy0_1594, b2007, b2012, m2013.length, am2013, pm2013, cm2013, Fm2013, (zer (zer zen)), h2063, hf1595_0, hm2013⟩
      ·
       replace hR := ifF hR hc2059
       obtain rfl : t2006 = false := Bool.eq_false_iff.2 hc2059
       refine Plan.move_bool rfl rfl <| Plan.passed rfl <| Plan.passed rfl <| Plan.passed rfl <| Plan.passed rfl <| Plan.pickFb rfl rfl rfl <| Plan.assign_bool rfl rfl <| Plan.nil ?_
       have h2064 := St.pickT (C := [_, _, _, _, _, _, _, _, _, _, _, _, _, _, _, _, _, _, _, _, _, _, _, _, _, _, _, _, _, _, _]) h2058 [8, 0, 1, 2, 3, 4, 5, 6, 7, 17, 18, 19, 20, 21, 22, 23, 24, 25, 26, 27, 28, 29, 30] (by decide)
       simp only [pick, zfc, zfn, zgz, zgs, zca, zna] at h2064
       exact ⟨x_1589, false, m2008, m2009, m2010, m2011, m2013, m2014, m2015, hR, ay0_1590, py0_1591, cy0_1593, Fy0_1594, b2007, b2012, m2013.length, am2013, pm2013, cm2013, Fm2013, (zer (zer zen)), h2064, hf1595_0, hm2013⟩
    ·
     rintro ev2065 wl2065 ⟨y_x_1953, y_ok1954, y_m1956, y_m1957, y_m1958, y_m1959, y_m1961, y_m1962, y_m1963, ⟨hy2065_0, hy2065_1, hy2065_2, hy2065_3, hy2065_4, hy2065_5, hy2065_6, hy2065_7, hy2065_8⟩, ax_1953, px_1953, cx_1953, Fx_1953, b1955, b1960, n_m1961, am1961, pm1961, cm1961, Fm1961, he2065, h2065, hx_1953, hm1961⟩
     subst hy2065_0
     subst hy2065_1
     subst hy2065_2
     subst hy2065_3
     subst hy2065_4
     subst hy2065_5
     subst hy2065_6
     subst hy2065_7
     subst hy2065_8
     obtain rfl : List.length (α := (Nat → BitVec 8)) m1961 = n_m1961 := hm1961.hl
     obtain ⟨ev2065, rfl⟩ := he2065.open
     replace hR := hR01964
     refine k1854 _ _ ?_; clear k1854
     refine W.seq_k fun _ k2066 => W.seq_k fun _ k2067 => ?_
     refine W.regionT [(0, true)] (by kernel_rfl) ?_
     refine Plan.assign_int rfl rfl <| Plan.nil (k2067 _ _ ?_); clear k2067
     obtain ⟨hI2086, hR02086⟩ := hR
     refine W.cutN (fun e w => True ∧ EnvHas e [(8, .bool ok1954)] ∧ St B w0 (⟨some b1955, 0, 240, fun q => VU .u8 (m1956 q), true⟩ :: ⟨some b1955, 240, 256, fun q => VU .u8 (m1957 q), true⟩ :: ⟨some b1955, 496, 256, fun q => VU .u8 (m1958 q), true⟩ :: ⟨some b1955, 752, 256, fun q => VU .u8 (m1959 q), true⟩ :: ⟨pm1961, 0, cm1961 * 4, Fm1961, true⟩ :: ⟨some b1960, 0, 1, fun _ => .slice am1961 m1961.length cm1961, true⟩ :: ⟨some b1960, 1, 256, fun q => VU .u8 (m1962 q), true⟩ :: ⟨some b1960, 257, 256, fun q => VU .u8 (m1963 q), true⟩ :: ⟨some b528, 0, 240, fun q => VU .u8 (m529 q), true⟩ :: ⟨some b528, 240, 256, fun q => VU .u8 (m530 q), true⟩ :: ⟨some b528, 496, 256, fun q => VU .u8 (m531 q), true⟩ :: ⟨some b528, 752, 256, fun q => VU .u8 (m532 q), true⟩ :: ⟨pm534, 0, cm534 * 4, Fm534, true⟩ :: ⟨some b533, 0, 1, fun _ => .slice am534 m534.length cm534, true⟩ :: ⟨some b533, 1, 256, fun q => VU .u8 (m535 q), true⟩ :: ⟨some b533, 257, 256, fun q => VU .u8 (m536 q), true⟩ :: ⟨some b4, 0, 1, fun _ => .pointer (some ⟨b528, 0, none⟩), true⟩ :: ⟨some b4, 1, 1, fun _ => .pointer (some ⟨b1955, 0, none⟩), true⟩ :: ⟨some b4, 2, 1, fun _ => .pointer (some ⟨b533, 0, none⟩), true⟩ :: ⟨some b4, 3, 1, fun _ => .pointer (some ⟨b1960, 0, none⟩), true⟩ :: ⟨some b4, 4, 1, fun _ => .slice none 0 0, true⟩ :: ⟨some b4, 5, 1, fun _ => .slice none 0 0, true⟩ :: L) w) ?_ ?_
     ·
      refine W.block ?_
      refine W.iter hI2086 (fun (s2086 : ((List Byte) × Nat)) e w => ∃ ax_2084 : Option Addr, ∃ px_2084 : Option Nat, ∃ cx_2084 : Nat, ∃ Fx_2084 : Nat → Byte, EnvHas e [(6, .slice ax_2084 x_1589.length cx_2084), (8, .bool ok1954), (9, VN s2086.2)] ∧ St B w0 (⟨px_2084, 0, cx_2084, fun q => VU .u8 (Fx_2084 q), true⟩ :: ⟨some b1955, 0, 240, fun q => VU .u8 (m1956 q), true⟩ :: ⟨some b1955, 240, 256, fun q => VU .u8 (m1957 q), true⟩ :: ⟨some b1955, 496, 256, fun q => VU .u8 (m1958 q), true⟩ :: ⟨some b1955, 752, 256, fun q => VU .u8 (m1959 q), true⟩ :: ⟨pm1961, 0, cm1961 * 4, Fm1961, true⟩ :: ⟨some b1960, 0, 1, fun _ => .slice am1961 m1961.length cm1961, true⟩ :: ⟨some b1960, 1, 256, fun q => VU .u8 (m1962 q), true⟩ :: ⟨some b1960, 257, 256, fun q => VU .u8 (m1963 q), true⟩ :: ⟨some b528, 0, 240, fun q => VU .u8 (m529 q), true⟩ :: ⟨some b528, 240, 256, fun q => VU .u8 (m530 q), true⟩ :: ⟨some b528, 496, 256, fun q => VU .u8 (m531 q), true⟩ :: ⟨some b528, 752, 256, fun q => VU .u8 (m532 q), true⟩ :: ⟨pm534, 0, cm534 * 4, Fm534, true⟩ :: ⟨some b533, 0, 1, fun _ => .slice am534 m534.length cm534, true⟩ :: ⟨some b533, 1, 256, fun q => VU .u8 (m535 q), true⟩ :: ⟨some b533, 257, 256, fun q => VU .u8 (m536 q), true⟩ :: ⟨some b4, 0, 1, fun _ => .pointer (some ⟨b528, 0, none⟩), true⟩ :: ⟨some b4, 1, 1, fun _ => .pointer (some ⟨b1955, 0, none⟩), true⟩ :: ⟨some b4, 2, 1, fun _ => .pointer (some ⟨b533, 0, none⟩), true⟩ :: ⟨some b4, 3, 1, fun _ => .pointer (some ⟨b1960, 0, none⟩), true⟩ :: ⟨some b4, 4, 1, fun _ => .slice none 0 0, true⟩ :: ⟨some b4, 5, 1, fun _ => .slice none 0 0, true⟩ :: L) w ∧ Ow ax_2084 px_2084 x_1589.length cx_2084 Fx_2084 s2086.1) ⟨ax_1953, px_1953, cx_1953, Fx_1953, (zer (zer (zer zen))), h2065, hx_1953⟩ ?_
      rintro ⟨x_2084, i_2085⟩ o2086 hR hx2086 ev2087 wl2087 ⟨ax_2084, px_2084, cx_2084, Fx_2084, he2087, h2087, hx_2084⟩
      obtain ⟨ev2087, rfl⟩ := he2087.open
      unfold lethelaw04_AesExact_l1 at hR
      refine W.seq_k fun _ k2088 => W.seq_k fun _ k2089 => ?_
      refine W.regionT [(0, true), (1, true), (2, true), (3, true)] (by kernel_rfl) ?_
      refine Plan.move_int rfl rfl <| Plan.move_slice rfl rfl <| Plan.len FAesExact.isl28 rfl rfl <| Plan.cmpP (a := (((i_2085 : Nat) : Int) : Int)) (b := (((x_1589.length : Nat) : Int) : Int)) (p := i_2085 < x_1589.length) rfl rfl rfl rfl icmp_ltN <| Plan.nil (k2089 _ _ ?_); clear k2089
      by_cases hc2090 : i_2085 < x_1589.length
      ·
       replace hR := ifT hR hc2090
       refine W.condT (congrArg Value.bool (decide_eq_true hc2090)) ?_
       refine W.skip ?_
       refine k2088 _ _ ?_; clear k2088
       refine W.seq_k fun _ k2091 => ?_
       refine W.block ?_
       refine W.regionT [(0, true), (1, true), (2, true), (3, false)] (by kernel_rfl) ?_
       refine Plan.move_slice rfl rfl <| Plan.move_int rfl rfl ?_
       obtain ⟨hc2092, hR⟩ := hR
       refine Plan.idxVS (j := i_2085) h2087 (hx_2084.bx 0 rfl) FAesExact.sl28 rfl rfl rfl hc2092 ?_
       refine Plan.storeO (j := i_2085) (Y := 85#8) h2087 0 hx_2084 rfl rfl rfl rfl hc2092 FAesExact.sz5 rfl fun w2093 F2093 ho2093 h2093 => ?_
       simp only [zca, zna, zsz, zss] at h2093
       have e2093 : (x_2084.set i_2085 (85#8)).length = x_2084.length := List.length_set
       refine Plan.nil ?_
       refine blockR_norm ?_
       refine k2091 _ _ ?_; clear k2091
       refine W.regionT [(0, true), (1, true), (2, true)] (by kernel_rfl) ?_
       refine Plan.move_int rfl rfl ?_
       obtain ⟨hc2094, hR⟩ := hR
       refine Plan.addN (a := i_2085) (b := 1) rfl rfl rfl (by omega) <| Plan.assign_int rfl rfl <| Plan.nil ?_
       exact iterR_norm ⟨_, hR, ax_2084, px_2084, cx_2084, F2093, (zer (zer (zer zen))), h2093, (show Ow _ _ x_1589.length _ _ _ from ho2093)⟩
      ·
       replace hR := ifF hR hc2090
       refine W.condF (congrArg Value.bool (decide_eq_false hc2090)) ?_
       refine W.exit (thenR_exit (iterR_exit (blockR_here ?_)))
       have h2095 := St.pickT (C := [_, _, _, _, _, _, _, _, _, _, _, _, _, _, _, _, _, _, _, _, _, _, _]) h2087 [1, 2, 3, 4, 5, 6, 7, 8, 9, 10, 11, 12, 13, 14, 15, 16, 17, 18, 19, 20, 21, 22] (by decide)
       simp only [pick, zfc, zfn, zgz, zgs, zca, zna] at h2095
       exact ⟨trivial, (zer zen), h2095⟩
     ·
      rintro ev2096 wl2096 ⟨hy2096, he2096, h2096⟩
      obtain ⟨ev2096, rfl⟩ := he2096.open
      replace hR := hR02086
      refine k2066 _ _ ?_; clear k2066
      refine W.seq_k fun _ k2097 => W.regionT [(0, true), (1, true)] (by kernel_rfl) ?_
      refine Plan.move_bool rfl rfl <| Plan.assign_bool rfl rfl <| Plan.nil (k2097 _ _ ?_); clear k2097
      refine W.ret (blockR_ret (thenR_ret (finR_ret ?_)))
      refine RetOk.mk (.tmp_bool rfl .nil) ?_
      exact ⟨ok1954, m1956, m1957, m1958, m1959, m1961, m1962, m1963, hR, b1955, b1960, m1961.length, am1961, pm1961, cm1961, Fm1961, rfl, h2096, hm1961⟩
   ·
    rintro _ w2098 ⟨y_script1574, y_m1576, y_m1577, y_m1578, y_m1579, y_m1581, y_m1582, y_m1583, ⟨hy2098_0, hy2098_1, hy2098_2, hy2098_3, hy2098_4, hy2098_5, hy2098_6, hy2098_7⟩, b1575, b1580, n_m1581, am1581, pm1581, cm1581, Fm1581, rfl, h2098, hm1581⟩
    subst hy2098_0
    subst hy2098_1
    subst hy2098_2
    subst hy2098_3
    subst hy2098_4
    subst hy2098_5
    subst hy2098_6
    subst hy2098_7
    obtain rfl : List.length (α := (Nat → BitVec 8)) m1581 = n_m1581 := hm1581.hl
    replace hR := hR01573
    refine ⟨_, rfl, .inl ⟨PIn.keep PIn.nil h2098, ?_⟩⟩
    refine Plan.assign_bool rfl rfl <| Plan.nil (k1057 _ _ ?_); clear k1057
    refine W.seq_k fun _ k2099 => W.regionT [(0, true), (1, true)] (by kernel_rfl) ?_
    refine Plan.move_bool rfl rfl <| Plan.not rfl rfl <| Plan.nil (k2099 _ _ ?_); clear k2099
    by_cases hc2100 : script1574 = true
    ·
     replace hR := ifT hR hc2100
     refine W.condF (congrArg Value.bool (congrArg Bool.not hc2100)) ?_
     refine W.skip ?_
     refine blockR_norm ?_
     refine k1056 _ _ ?_; clear k1056
     refine W.regionT [(0, true), (1, true), (2, true)] (by kernel_rfl) ?_
     refine Plan.move_int rfl rfl <| Plan.addN (a := 1) (b := 1) rfl rfl rfl (by omega) <| Plan.assign_int rfl rfl <| Plan.nil ?_
     refine UL.nextT ?_
     refine W.seq_k fun _ k2101 => W.seq_k fun _ k2102 => ?_
     refine W.regionT [(0, true), (1, true)] (by kernel_rfl) ?_
     refine Plan.move_int rfl rfl <| Plan.cmpP (a := (2 : Int)) (b := (2 : Int)) (p := (2 : Nat) < 2) rfl rfl rfl rfl icmp_ltN <| Plan.nil (k2102 _ _ ?_); clear k2102
     refine W.condF rfl ?_
     refine W.exit (thenR_exit (thenR_exit (blockR_here ?_)))
     refine k5 _ _ ?_; clear k5
     refine W.seq_k fun _ k2103 => W.seq_k fun _ k2104 => ?_
     refine W.regionT [(0, true)] (by kernel_rfl) ?_
     refine Plan.assign_int rfl rfl <| Plan.nil (k2104 _ _ ?_); clear k2104
     have hFj7627 : Fr2 L L L L := Fr2.refl _ _
     have h7628 : St B w0 (⟨none, 0, 0 * 1, fun _ => undef, true⟩ :: _) _ := h2098.nilE (fun _ => undef)
     have h7629 : St B w0 (⟨none, 0, 0 * 1, fun _ => undef, true⟩ :: _) _ := h7628.nilE (fun _ => undef)
     obtain ⟨x7627, hI7627, hR07627⟩ := hR
     refine W.cutN (fun e w => ∃ y_m7608 : Nat → BitVec 8, ∃ y_m7609 : Nat → BitVec 8, ∃ y_m7610 : Nat → BitVec 8, ∃ y_m7611 : Nat → BitVec 8, ∃ y_m7613 : Nat → BitVec 8, ∃ y_m7614 : Nat → BitVec 8, ∃ y_m7615 : Nat → BitVec 8, ∃ y_m7616 : Nat → BitVec 8, ∃ y_m7618 : List (Nat → BitVec 8), ∃ y_m7619 : Nat → BitVec 8, ∃ y_m7620 : Nat → BitVec 8, ∃ y_m7622 : List (Nat → BitVec 8), ∃ y_m7623 : Nat → BitVec 8, ∃ y_m7624 : Nat → BitVec 8, ∃ y_m7625 : List (List Byte), ∃ y_m7626 : List (List Byte), x7627 = some (y_m7608, y_m7609, y_m7610, y_m7611, y_m7613, y_m7614, y_m7615, y_m7616, y_m7618, y_m7619, y_m7620, y_m7622, y_m7623, y_m7624, y_m7625, y_m7626) ∧ ∃ CG LG : List Rg, LG = CG ++ L ∧ ∃ L : List Rg, L = LG ∧ ∃ b7607 : Nat, ∃ b7612 : Nat, ∃ b7617 : Nat, ∃ n_m7618 : Nat, ∃ am7618 : Option Addr, ∃ pm7618 : Option Nat, ∃ cm7618 : Nat, ∃ Fm7618 : Nat → Value, ∃ b7621 : Nat, ∃ n_m7622 : Nat, ∃ am7622 : Option Addr, ∃ pm7622 : Option Nat, ∃ cm7622 : Nat, ∃ Fm7622 : Nat → Value, ∃ n_m7625 : Nat, ∃ am7625 : Option Addr, ∃ pm7625 : Option Nat, ∃ cm7625 : Nat, ∃ Fm7625 : Nat → Value, ∃ n_m7626 : Nat, ∃ am7626 : Option Addr, ∃ pm7626 : Option Nat, ∃ cm7626 : Nat, ∃ Fm7626 : Nat → Value, EnvHas e [(3, .pointer (some ⟨b4, 0, none⟩))] ∧ St B w0 (⟨some b7607, 0, 240, fun q => VU .u8 (y_m7608 q), true⟩ :: ⟨some b7607, 240, 256, fun q => VU .u8 (y_m7609 q), true⟩ :: ⟨some b7607, 496, 256, fun q => VU .u8 (y_m7610 q), true⟩ :: ⟨some b7607, 752, 256, fun q => VU .u8 (y_m7611 q), true⟩ :: ⟨some b7612, 0, 240, fun q => VU .u8 (y_m7613 q), true⟩ :: ⟨some b7612, 240, 256, fun q => VU .u8 (y_m7614 q), true⟩ :: ⟨some b7612, 496, 256, fun q => VU .u8 (y_m7615 q), true⟩ :: ⟨some b7612, 752, 256, fun q => VU .u8 (y_m7616 q), true⟩ :: ⟨pm7618, 0, cm7618 * 4, Fm7618, true⟩ :: ⟨some b7617, 0, 1, fun _ => .slice am7618 n_m7618 cm7618, true⟩ :: ⟨some b7617, 1, 256, fun q => VU .u8 (y_m7619 q), true⟩ :: ⟨some b7617, 257, 256, fun q => VU .u8 (y_m7620 q), true⟩ :: ⟨pm7622, 0, cm7622 * 4, Fm7622, true⟩ :: ⟨some b7621, 0, 1, fun _ => .slice am7622 n_m7622 cm7622, true⟩ :: ⟨some b7621, 1, 256, fun q => VU .u8 (y_m7623 q), true⟩ :: ⟨some b7621, 257, 256, fun q => VU .u8 (y_m7624 q), true⟩ :: ⟨pm7625, 0, cm7625 * 1, Fm7625, true⟩ :: ⟨pm7626, 0, cm7626 * 1, Fm7626, true⟩ :: ⟨some b4, 0, 1, fun _ => .pointer (some ⟨b7607, 0, none⟩), true⟩ :: ⟨some b4, 1, 1, fun _ => .pointer (some ⟨b7612, 0, none⟩), true⟩ :: ⟨some b4, 2, 1, fun _ => .pointer (some ⟨b7617, 0, none⟩), true⟩ :: ⟨some b4, 3, 1, fun _ => .pointer (some ⟨b7621, 0, none⟩), true⟩ :: ⟨some b4, 4, 1, fun _ => .slice am7625 n_m7625 cm7625, true⟩ :: ⟨some b4, 5, 1, fun _ => .slice am7626 n_m7626 cm7626, true⟩ :: L) w ∧ LO D76 [] am7618 pm7618 n_m7618 cm7618 Fm7618 y_m7618 ∧ LO D76 [] am7622 pm7622 n_m7622 cm7622 Fm7622 y_m7622 ∧ LO (D28.at L) [] am7625 pm7625 n_m7625 cm7625 Fm7625 y_m7625 ∧ LO (D28.at L) [] am7626 pm7626 n_m7626 cm7626 Fm7626 y_m7626) ?_ ?_
     ·
      refine W.block ?_
      have h7630 := St.pickT (C := [_, _, _, _, _, _, _, _, _, _, _, _, _, _, _, _, _, _, _, _, _, _, _, _]) h7629 [10, 11, 12, 13, 2, 3, 4, 5, 14, 15, 16, 17, 6, 7, 8, 9, 1, 0, 18, 19, 20, 21, 22, 23] (by decide)
      simp only [pick, zfc, zfn, zgz, zgs, zca, zna] at h7630
      refine W.iter hI7627 (fun (s7627 : (Nat × (Nat → BitVec 8) × (Nat → BitVec 8) × (Nat → BitVec 8) × (Nat → BitVec 8) × (Nat → BitVec 8) × (Nat → BitVec 8) × (Nat → BitVec 8) × (Nat → BitVec 8) × (List (Nat → BitVec 8)) × (Nat → BitVec 8) × (Nat → BitVec 8) × (List (Nat → BitVec 8)) × (Nat → BitVec 8) × (Nat → BitVec 8) × (List (List Byte)) × (List (List Byte)))) e w => ∃ CG LG : List Rg, LG = CG ++ L ∧ ∃ L : List Rg, L = LG ∧ ∃ b7585 : Nat, ∃ b7590 : Nat, ∃ b7595 : Nat, ∃ n_m7596 : Nat, ∃ am7596 : Option Addr, ∃ pm7596 : Option Nat, ∃ cm7596 : Nat, ∃ Fm7596 : Nat → Value, ∃ b7599 : Nat, ∃ n_m7600 : Nat, ∃ am7600 : Option Addr, ∃ pm7600 : Option Nat, ∃ cm7600 : Nat, ∃ Fm7600 : Nat → Value, ∃ n_m7603 : Nat, ∃ am7603 : Option Addr, ∃ pm7603 : Option Nat, ∃ cm7603 : Nat, ∃ Fm7603 : Nat → Value, ∃ n_m7605 : Nat, ∃ am7605 : Option Addr, ∃ pm7605 : Option Nat, ∃ cm7605 : Nat, ∃ Fm7605 : Nat → Value, EnvHas e [(0, .slice ascript1 script1.length cscript1), (3, .pointer (some ⟨b4, 0, none⟩)), (6, VN s7627.1)] ∧ St B w0 (⟨some b7585, 0, 240, fun q => VU .u8 (s7627.2.1 q), true⟩ :: ⟨some b7585, 240, 256, fun q => VU .u8 (s7627.2.2.1 q), true⟩ :: ⟨some b7585, 496, 256, fun q => VU .u8 (s7627.2.2.2.1 q), true⟩ :: ⟨some b7585, 752, 256, fun q => VU .u8 (s7627.2.2.2.2.1 q), true⟩ :: ⟨some b7590, 0, 240, fun q => VU .u8 (s7627.2.2.2.2.2.1 q), true⟩ :: ⟨some b7590, 240, 256, fun q => VU .u8 (s7627.2.2.2.2.2.2.1 q), true⟩ :: ⟨some b7590, 496, 256, fun q => VU .u8 (s7627.2.2.2.2.2.2.2.1 q), true⟩ :: ⟨some b7590, 752, 256, fun q => VU .u8 (s7627.2.2.2.2.2.2.2.2.1 q), true⟩ :: ⟨pm7596, 0, cm7596 * 4, Fm7596, true⟩ :: ⟨some b7595, 0, 1, fun _ => .slice am7596 n_m7596 cm7596, true⟩ :: ⟨some b7595, 1, 256, fun q => VU .u8 (s7627.2.2.2.2.2.2.2.2.2.2.1 q), true⟩ :: ⟨some b7595, 257, 256, fun q => VU .u8 (s7627.2.2.2.2.2.2.2.2.2.2.2.1 q), true⟩ :: ⟨pm7600, 0, cm7600 * 4, Fm7600, true⟩ :: ⟨some b7599, 0, 1, fun _ => .slice am7600 n_m7600 cm7600, true⟩ :: ⟨some b7599, 1, 256, fun q => VU .u8 (s7627.2.2.2.2.2.2.2.2.2.2.2.2.2.1 q), true⟩ :: ⟨some b7599, 257, 256, fun q => VU .u8 (s7627.2.2.2.2.2.2.2.2.2.2.2.2.2.2.1 q), true⟩ :: ⟨pm7603, 0, cm7603 * 1, Fm7603, true⟩ :: ⟨pm7605, 0, cm7605 * 1, Fm7605, true⟩ :: ⟨some b4, 0, 1, fun _ => .pointer (some ⟨b7585, 0, none⟩), true⟩ :: ⟨some b4, 1, 1, fun _ => .pointer (some ⟨b7590, 0, none⟩), true⟩ :: ⟨some b4, 2, 1, fun _ => .pointer (some ⟨b7595, 0, none⟩), true⟩ :: ⟨some b4, 3, 1, fun _ => .pointer (some ⟨b7599, 0, none⟩), true⟩ :: ⟨some b4, 4, 1, fun _ => .slice am7603 n_m7603 cm7603, true⟩ :: ⟨some b4, 5, 1, fun _ => .slice am7605 n_m7605 cm7605, true⟩ :: L) w ∧ LO D76 [] am7596 pm7596 n_m7596 cm7596 Fm7596 s7627.2.2.2.2.2.2.2.2.2.1 ∧ LO D76 [] am7600 pm7600 n_m7600 cm7600 Fm7600 s7627.2.2.2.2.2.2.2.2.2.2.2.2.1 ∧ LO (D28.at L) [] am7603 pm7603 n_m7603 cm7603 Fm7603 s7627.2.2.2.2.2.2.2.2.2.2.2.2.2.2.2.1 ∧ LO (D28.at L) [] am7605 pm7605 n_m7605 cm7605 Fm7605 s7627.2.2.2.2.2.2.2.2.2.2.2.2.2.2.2.2) ⟨[], L, rfl, L, rfl, b528, b1575, b533, m534.length, am534, pm534, cm534, Fm534, b1580, m1581.length, am1581, pm1581, cm1581, Fm1581, 0, none, none, 0, (fun _ => undef), 0, none, none, 0, (fun _ => undef), (zer (zer (zer zen))), h7630, hm534, hm1581, LO.nil, LO.nil⟩ ?_
      rintro ⟨i_7584, m7586, m7587, m7588, m7589, m7591, m7592, m7593, m7594, m7596, m7597, m7598, m7600, m7601, m7602, m7603, m7605⟩ o7627 hR hx7627 ev7631 wl7631 ⟨CG7631, LG7631, hlg7631, L, hLe7631, b7585, b7590, b7595, n_m7596, am7596, pm7596, cm7596, Fm7596, b7599, n_m7600, am7600, pm7600, cm7600, Fm7600, n_m7603, am7603, pm7603, cm7603, Fm7603, n_m7605, am7605, pm7605, cm7605, Fm7605, he7631, h7631, hm7596, hm7600, hm7603, hm7605⟩
      try dsimp only at he7631 h7631 hm7596 hm7600 hm7603 hm7605
      obtain rfl : List.length (α := (Nat → BitVec 8)) m7596 = n_m7596 := hm7596.hl
      obtain rfl : List.length (α := (Nat → BitVec 8)) m7600 = n_m7600 := hm7600.hl
      obtain rfl : List.length (α := (List Byte)) m7603 = n_m7603 := hm7603.hl
      obtain rfl : List.length (α := (List Byte)) m7605 = n_m7605 := hm7605.hl
      obtain ⟨ev7631, rfl⟩ := he7631.open
      unfold lethelaw04_AesExact_l2 at hR
      have hL7631 := hLe7631.trans hlg7631
      replace hFr : Fr2 _ _ L L := hFr.step hL7631 hL7631
      replace hFj7627 : Fr2 _ _ L L := hFj7627.step hL7631 hL7631
      obtain ⟨ix7633, hv7633⟩ : ∃ i, LV (D56.at L) L i ascript1 script1.length cscript1 script1 := ⟨_, by rw [hL7631]; exact (LV.grow D56_lifts (fun r hr => List.mem_append_right _ hr) hscript1).app _⟩
      refine W.seq_k fun _ k7634 => W.seq_k fun _ k7638 => ?_
      refine W.regionT [(0, true), (1, true), (2, true), (3, true), (4, true), (5, true), (6, true), (7, true)] (by kernel_rfl) ?_
      refine Plan.move_int rfl rfl <| Plan.move_slice rfl rfl <| Plan.len FAesExact.isl44 rfl rfl ?_
      by_cases hc7639 : i_7584 < script1.length
      ·
       replace hR := ifT hR hc7639
       refine Plan.cmpV (a := (((i_7584 : Nat) : Int) : Int)) (b := (((script1.length : Nat) : Int) : Int)) (p := i_7584 < script1.length) (v := true) rfl rfl rfl rfl icmp_ltN (decide_eq_true hc7639) <| Plan.move_bool rfl rfl <| Plan.move_int rfl rfl <| Plan.cmpP (a := (((i_7584 : Nat) : Int) : Int)) (b := (40 : Int)) (p := i_7584 < 40) rfl rfl rfl rfl icmp_ltN <| Plan.pickTb rfl rfl rfl <| Plan.nil (k7638 _ _ ?_); clear k7638
       by_cases hc7640 : i_7584 < 40
       ·
        replace hR := ifT hR hc7640
        refine W.condT (congrArg Value.bool (decide_eq_true hc7640)) ?_
        refine W.skip ?_
        refine k7634 _ _ ?_; clear k7634
        refine W.seq_k fun _ k7641 => ?_
        refine W.block ?_
        refine W.seq_k fun _ k7642 => W.regionT [(0, true), (1, true), (2, true), (3, true), (4, true), (5, false), (6, true)] (by kernel_rfl) ?_
        refine Plan.move_ptr rfl rfl <| Plan.move_slice rfl rfl <| Plan.move_int rfl rfl ?_
        obtain ⟨hc7643, hR⟩ := hR
        refine Plan.idxLVS (D := (D56.at L)) (j := i_7584) h7631 (hv7633.app [_, _, _, _, _, _, _, _, _, _, _, _, _, _, _, _, _, _, _, _, _, _, _, _]) FAesExact.sl44 rfl rfl rfl hc7643 ?_
        refine Plan.loadLV (D := (D56.at L)) (X := script1) (j := i_7584) (sz := 22) h7631 ((0 : Int), (0 : Int), 0#8, 0#8, 0#64, (fun _ => 0#8), ([] : List Byte)) (hv7633.app [_, _, _, _, _, _, _, _, _, _, _, _, _, _, _, _, _, _, _, _, _, _, _, _]) rfl rfl hc7643 rfl FAesExact.agg56 fun b7644 r7644 hs7644 hr7644 => ?_
        obtain ⟨i7644_6, hv7644_6⟩ := hs7644
        have hFj8956 : Fr2 L L L L := Fr2.refl _ _
        obtain ⟨script8957, m8959, m8960, m8961, m8962, m8964, m8965, m8966, m8967, m8969, m8970, m8971, m8973, m8974, m8975, m8976, m8977, hX8956, hR08956⟩ := hR
        refine Plan.call (vs := [.pointer (some ⟨b4, 0, none⟩), AG [(1, fun _ => .int .i64 ((script1.getD i_7584 ((0 : Int), (0 : Int), 0#8, 0#8, 0#64, (fun _ => 0#8), ([] : List Byte))).1)), (1, fun _ => .int .i64 ((script1.getD i_7584 ((0 : Int), (0 : Int), 0#8, 0#8, 0#64, (fun _ => 0#8), ([] : List Byte))).2.1)), (1, fun _ => VU .u8 ((script1.getD i_7584 ((0 : Int), (0 : Int), 0#8, 0#8, 0#64, (fun _ => 0#8), ([] : List Byte))).2.2.1)), (1, fun _ => VU .u8 ((script1.getD i_7584 ((0 : Int), (0 : Int), 0#8, 0#8, 0#64, (fun _ => 0#8), ([] : List Byte))).2.2.2.1)), (1, fun _ => VU .u64 ((script1.getD i_7584 ((0 : Int), (0 : Int), 0#8, 0#8, 0#64, (fun _ => 0#8), ([] : List Byte))).2.2.2.2.1)), (16, fun q => VU .u8 (((script1.getD i_7584 ((0 : Int), (0 : Int), 0#8, 0#8, 0#64, (fun _ => 0#8), ([] : List Byte))).2.2.2.2.2.1) q)), (1, fun _ => .slice ((b7644).1) (((script1.getD i_7584 ((0 : Int), (0 : Int), 0#8, 0#8, 0#64, (fun _ => 0#8), ([] : List Byte))).2.2.2.2.2.2).length) ((b7644).2))]]) (R := fun e w => ∃ y_script8957 : Bool, ∃ y_m8959 : Nat → BitVec 8, ∃ y_m8960 : Nat → BitVec 8, ∃ y_m8961 : Nat → BitVec 8, ∃ y_m8962 : Nat → BitVec 8, ∃ y_m8964 : Nat → BitVec 8, ∃ y_m8965 : Nat → BitVec 8, ∃ y_m8966 : Nat → BitVec 8, ∃ y_m8967 : Nat → BitVec 8, ∃ y_m8969 : List (Nat → BitVec 8), ∃ y_m8970 : Nat → BitVec 8, ∃ y_m8971 : Nat → BitVec 8, ∃ y_m8973 : List (Nat → BitVec 8), ∃ y_m8974 : Nat → BitVec 8, ∃ y_m8975 : Nat → BitVec 8, ∃ y_m8976 : List (List Byte), ∃ y_m8977 : List (List Byte), (script8957 = y_script8957 ∧ m8959 = y_m8959 ∧ m8960 = y_m8960 ∧ m8961 = y_m8961 ∧ m8962 = y_m8962 ∧ m8964 = y_m8964 ∧ m8965 = y_m8965 ∧ m8966 = y_m8966 ∧ m8967 = y_m8967 ∧ m8969 = y_m8969 ∧ m8970 = y_m8970 ∧ m8971 = y_m8971 ∧ m8973 = y_m8973 ∧ m8974 = y_m8974 ∧ m8975 = y_m8975 ∧ m8976 = y_m8976 ∧ m8977 = y_m8977) ∧ ∃ CG LG : List Rg, LG = CG ++ L ∧ ∃ L : List Rg, L = LG ∧ ∃ b8958 : Nat, ∃ b8963 : Nat, ∃ b8968 : Nat, ∃ n_m8969 : Nat, ∃ am8969 : Option Addr, ∃ pm8969 : Option Nat, ∃ cm8969 : Nat, ∃ Fm8969 : Nat → Value, ∃ b8972 : Nat, ∃ n_m8973 : Nat, ∃ am8973 : Option Addr, ∃ pm8973 : Option Nat, ∃ cm8973 : Nat, ∃ Fm8973 : Nat → Value, ∃ n_m8976 : Nat, ∃ am8976 : Option Addr, ∃ pm8976 : Option Nat, ∃ cm8976 : Nat, ∃ Fm8976 : Nat → Value, ∃ n_m8977 : Nat, ∃ am8977 : Option Addr, ∃ pm8977 : Option Nat, ∃ cm8977 : Nat, ∃ Fm8977 : Nat → Value, e = .returned (.bool y_script8957) ∧ St B w0 (⟨some b8958, 0, 240, fun q => VU .u8 (y_m8959 q), true⟩ :: ⟨some b8958, 240, 256, fun q => VU .u8 (y_m8960 q), true⟩ :: ⟨some b8958, 496, 256, fun q => VU .u8 (y_m8961 q), true⟩ :: ⟨some b8958, 752, 256, fun q => VU .u8 (y_m8962 q), true⟩ :: ⟨some b8963, 0, 240, fun q => VU .u8 (y_m8964 q), true⟩ :: ⟨some b8963, 240, 256, fun q => VU .u8 (y_m8965 q), true⟩ :: ⟨some b8963, 496, 256, fun q => VU .u8 (y_m8966 q), true⟩ :: ⟨some b8963, 752, 256, fun q => VU .u8 (y_m8967 q), true⟩ :: ⟨pm8969, 0, cm8969 * 4, Fm8969, true⟩ :: ⟨some b8968, 0, 1, fun _ => .slice am8969 n_m8969 cm8969, true⟩ :: ⟨some b8968, 1, 256, fun q => VU .u8 (y_m8970 q), true⟩ :: ⟨some b8968, 257, 256, fun q => VU .u8 (y_m8971 q), true⟩ :: ⟨pm8973, 0, cm8973 * 4, Fm8973, true⟩ :: ⟨some b8972, 0, 1, fun _ => .slice am8973 n_m8973 cm8973, true⟩ :: ⟨some b8972, 1, 256, fun q => VU .u8 (y_m8974 q), true⟩ :: ⟨some b8972, 257, 256, fun q => VU .u8 (y_m8975 q), true⟩ :: ⟨pm8976, 0, cm8976 * 1, Fm8976, true⟩ :: ⟨pm8977, 0, cm8977 * 1, Fm8977, true⟩ :: ⟨some b4, 0, 1, fun _ => .pointer (some ⟨b8958, 0, none⟩), true⟩ :: ⟨some b4, 1, 1, fun _ => .pointer (some ⟨b8963, 0, none⟩), true⟩ :: ⟨some b4, 2, 1, fun _ => .pointer (some ⟨b8968, 0, none⟩), true⟩ :: ⟨some b4, 3, 1, fun _ => .pointer (some ⟨b8972, 0, none⟩), true⟩ :: ⟨some b4, 4, 1, fun _ => .slice am8976 n_m8976 cm8976, true⟩ :: ⟨some b4, 5, 1, fun _ => .slice am8977 n_m8977 cm8977, true⟩ :: L) w ∧ LO D76 [] am8969 pm8969 n_m8969 cm8969 Fm8969 y_m8969 ∧ LO D76 [] am8973 pm8973 n_m8973 cm8973 Fm8973 y_m8973 ∧ LO (D28.at L) [] am8976 pm8976 n_m8976 cm8976 Fm8976 y_m8976 ∧ LO (D28.at L) [] am8977 pm8977 n_m8977 cm8977 Fm8977 y_m8977) rfl FAesExact.call21 rfl ?_ ?_
        ·
         replace hR := hX8956
         refine W.enter 185 Try.func21 rfl rfl rfl ?_
         refine W.seq_k fun _ k8978 => W.regionT [(0, false), (1, true)] (by kernel_rfl) ?_
         refine Plan.boxA h7631 rfl rfl PIn.nil fun b8979 w8979 hb8979 h8979 => ?_
         simp only [rngs, Nat.zero_add, Nat.reduceAdd, zca, zna] at h8979
         refine Plan.assign_bool rfl rfl <| Plan.nil (k8978 _ _ ?_); clear k8978
         refine W.seq_k fun _ k8980 => W.regionT [(0, true), (1, true), (2, true), (3, true)] (by kernel_rfl) ?_
         refine Plan.fieldAddr 1 FAesExact.fld56_1 rfl rfl <| Plan.load0 h8979 1 rfl rfl rfl (by omega) FAesExact.sc3 ?_
         obtain ⟨kz8981, hkz8981, hR⟩ := hR
         refine Plan.maskZ (a := (script1.getD i_7584 ((0 : Int), (0 : Int), 0#8, 0#8, 0#64, (fun _ => 0#8), ([] : List Byte))).2.1) 1 hkz8981 (by decide) rfl rfl rfl ?_
         refine Plan.assign_int rfl rfl <| Plan.nil (k8980 _ _ ?_); clear k8980
         refine W.seq_k fun _ k8982 => W.regionT [(0, true), (1, true), (2, false), (3, true)] (by kernel_rfl) ?_
         refine Plan.fieldAddr 21 FAesExact.fld56_6 rfl rfl <| Plan.load0 h8979 6 rfl rfl rfl (by omega) FAesExact.sc28 ?_
         obtain ⟨x_8984, hr8983, hR⟩ := hR
         refine Plan.call (vs := [.slice ((b7644).1) (((script1.getD i_7584 ((0 : Int), (0 : Int), 0#8, 0#8, 0#64, (fun _ => 0#8), ([] : List Byte))).2.2.2.2.2.2).length) ((b7644).2)]) rfl FAesExact.call27 rfl (lethelaw04_Room_ok (hv7644_6.app [_, _, _, _, _, _, _, _, _, _, _, _, _, _, _, _, _, _, _, _, _, _, _, _, _, _, _, _, _, _, _]) hr8983 h8979) ?_
         rintro _ w8990 ⟨ay0_8985, py0_8986, ny0_8987, cy0_8988, Fy0_8989, rfl, h8990, hf8990_0⟩
         obtain rfl := hf8990_0.hl
         refine ⟨_, rfl, .inr ⟨rfl, ?_⟩⟩
         refine Plan.assign_slice rfl rfl <| Plan.nil (k8982 _ _ ?_); clear k8982
         refine W.seq_k fun _ k8991 => W.regionT [(0, true), (1, true), (2, true), (3, true), (4, true), (5, true)] (by kernel_rfl) ?_
         refine Plan.move_slice rfl rfl <| Plan.fieldAddr 21 FAesExact.fld56_6 rfl rfl <| Plan.load0 h8990 7 rfl rfl rfl (by omega) FAesExact.sc28 <| Plan.len FAesExact.isl28 rfl rfl ?_
         obtain ⟨hc8992, hR⟩ := hR
         have hm8993 := hf8990_0.hc
         refine Plan.slSl (lo := 0) (hi := ((script1.getD i_7584 ((0 : Int), (0 : Int), 0#8, 0#8, 0#64, (fun _ => 0#8), ([] : List Byte))).2.2.2.2.2.2).length) FAesExact.sl28 rfl rfl rfl ⟨_, rfl⟩ (by omega) ?_
         refine Plan.assign_slice rfl rfl <| Plan.nil (k8991 _ _ ?_); clear k8991
         refine W.seq_k fun _ k8994 => W.regionT [(0, true)] (by kernel_rfl) ?_
         refine Plan.assign_bool rfl rfl <| Plan.nil (k8994 _ _ ?_); clear k8994
         refine W.seq_k fun _ k8995 => ?_
         have hFj9632 : Fr2 L L L L := Fr2.refl _ _
         obtain ⟨ok9632, x_9618, ok9619, m9621, m9622, m9623, m9625, m9626, m9627, m9628, m9629, m9630, m9631, hX9632, hR09632⟩ := hR
         refine W.cutN (fun e w => ∃ y_x_9618 : List Byte, ∃ y_ok9619 : Bool, ∃ y_m9621 : List (Nat → BitVec 8), ∃ y_m9622 : Nat → BitVec 8, ∃ y_m9623 : Nat → BitVec 8, ∃ y_m9625 : List (Nat → BitVec 8), ∃ y_m9626 : Nat → BitVec 8, ∃ y_m9627 : Nat → BitVec 8, ∃ y_m9628 : List (List Byte), ∃ y_m9629 : List (List Byte), ∃ y_m9630 : Nat → BitVec 8, ∃ y_m9631 : Nat → BitVec 8, (ok9632 = true ∧ x_9618 = y_x_9618 ∧ ok9619 = y_ok9619 ∧ m9621 = y_m9621 ∧ m9622 = y_m9622 ∧ m9623 = y_m9623 ∧ m9625 = y_m9625 ∧ m9626 = y_m9626 ∧ m9627 = y_m9627 ∧ m9628 = y_m9628 ∧ m9629 = y_m9629 ∧ m9630 = y_m9630 ∧ m9631 = y_m9631) ∧ ∃ CG LG : List Rg, LG = CG ++ L ∧ ∃ L : List Rg, L = LG ∧ ∃ ax_9618 : Option Addr, ∃ px_9618 : Option Nat, ∃ cx_9618 : Nat, ∃ Fx_9618 : Nat → Byte, ∃ b9620 : Nat, ∃ n_m9621 : Nat, ∃ am9621 : Option Addr, ∃ pm9621 : Option Nat, ∃ cm9621 : Nat, ∃ Fm9621 : Nat → Value, ∃ b9624 : Nat, ∃ n_m9625 : Nat, ∃ am9625 : Option Addr, ∃ pm9625 : Option Nat, ∃ cm9625 : Nat, ∃ Fm9625 : Nat → Value, ∃ n_m9628 : Nat, ∃ am9628 : Option Addr, ∃ pm9628 : Option Nat, ∃ cm9628 : Nat, ∃ Fm9628 : Nat → Value, ∃ n_m9629 : Nat, ∃ am9629 : Option Addr, ∃ pm9629 : Option Nat, ∃ cm9629 : Nat, ∃ Fm9629 : Nat → Value, EnvHas e [(3, .pointer (some ⟨b8979, 0, none⟩)), (6, .slice ax_9618 x_8984.length cx_9618), (8, .bool y_ok9619)] ∧ St B w0 (⟨px_9618, 0, cx_9618, fun q => VU .u8 (Fx_9618 q), true⟩ :: ⟨pm9621, 0, cm9621 * 4, Fm9621, true⟩ :: ⟨some b9620, 0, 1, fun _ => .slice am9621 n_m9621 cm9621, true⟩ :: ⟨some b9620, 1, 256, fun q => VU .u8 (y_m9622 q), true⟩ :: ⟨some b9620, 257, 256, fun q => VU .u8 (y_m9623 q), true⟩ :: ⟨pm9625, 0, cm9625 * 4, Fm9625, true⟩ :: ⟨some b9624, 0, 1, fun _ => .slice am9625 n_m9625 cm9625, true⟩ :: ⟨some b9624, 1, 256, fun q => VU .u8 (y_m9626 q), true⟩ :: ⟨some b9624, 257, 256, fun q => VU .u8 (y_m9627 q), true⟩ :: ⟨pm9628, 0, cm9628 * 1, Fm9628, true⟩ :: ⟨pm9629, 0, cm9629 * 1, Fm9629, true⟩ :: ⟨some b8979, 0, 1, fun _ => .int .i64 ((script1.getD i_7584 ((0 : Int), (0 : Int), 0#8, 0#8, 0#64, (fun _ => 0#8), ([] : List Byte))).1), true⟩ :: ⟨some b8979, 1, 1, fun _ => .int .i64 ((script1.getD i_7584 ((0 : Int), (0 : Int), 0#8, 0#8, 0#64, (fun _ => 0#8), ([] : List Byte))).2.1), true⟩ :: ⟨some b8979, 2, 1, fun _ => VU .u8 ((script1.getD i_7584 ((0 : Int), (0 : Int), 0#8, 0#8, 0#64, (fun _ => 0#8), ([] : List Byte))).2.2.1), true⟩ :: ⟨some b8979, 3, 1, fun _ => VU .u8 ((script1.getD i_7584 ((0 : Int), (0 : Int), 0#8, 0#8, 0#64, (fun _ => 0#8), ([] : List Byte))).2.2.2.1), true⟩ :: ⟨some b8979, 4, 1, fun _ => VU .u64 ((script1.getD i_7584 ((0 : Int), (0 : Int), 0#8, 0#8, 0#64, (fun _ => 0#8), ([] : List Byte))).2.2.2.2.1), true⟩ :: ⟨some b8979, 5, 16, fun q => VU .u8 (((script1.getD i_7584 ((0 : Int), (0 : Int), 0#8, 0#8, 0#64, (fun _ => 0#8), ([] : List Byte))).2.2.2.2.2.1) q), true⟩ :: ⟨some b8979, 21, 1, fun _ => .slice ((b7644).1) (((script1.getD i_7584 ((0 : Int), (0 : Int), 0#8, 0#8, 0#64, (fun _ => 0#8), ([] : List Byte))).2.2.2.2.2.2).length) ((b7644).2), true⟩ :: ⟨some b7585, 0, 240, fun q => VU .u8 (y_m9630 q), true⟩ :: ⟨some b7585, 240, 256, fun q => VU .u8 (m7587 q), true⟩ :: ⟨some b7585, 496, 256, fun q => VU .u8 (m7588 q), true⟩ :: ⟨some b7585, 752, 256, fun q => VU .u8 (m7589 q), true⟩ :: ⟨some b7590, 0, 240, fun q => VU .u8 (y_m9631 q), true⟩ :: ⟨some b7590, 240, 256, fun q => VU .u8 (m7592 q), true⟩ :: ⟨some b7590, 496, 256, fun q => VU .u8 (m7593 q), true⟩ :: ⟨some b7590, 752, 256, fun q => VU .u8 (m7594 q), true⟩ :: ⟨some b4, 0, 1, fun _ => .pointer (some ⟨b7585, 0, none⟩), true⟩ :: ⟨some b4, 1, 1, fun _ => .pointer (some ⟨b7590, 0, none⟩), true⟩ :: ⟨some b4, 2, 1, fun _ => .pointer (some ⟨b9620, 0, none⟩), true⟩ :: ⟨some b4, 3, 1, fun _ => .pointer (some ⟨b9624, 0, none⟩), true⟩ :: ⟨some b4, 4, 1, fun _ => .slice am9628 n_m9628 cm9628, true⟩ :: ⟨some b4, 5, 1, fun _ => .slice am9629 n_m9629 cm9629, true⟩ :: L) w ∧ Ow ax_9618 px_9618 x_8984.length cx_9618 Fx_9618 y_x_9618 ∧ LO D76 [] am9621 pm9621 n_m9621 cm9621 Fm9621 y_m9621 ∧ LO D76 [] am9625 pm9625 n_m9625 cm9625 Fm9625 y_m9625 ∧ LO (D28.at L) [] am9628 pm9628 n_m9628 cm9628 Fm9628 y_m9628 ∧ LO (D28.at L) [] am9629 pm9629 n_m9629 cm9629 Fm9629 y_m9629) ?_ ?_
         ·
          replace hR := hX9632
          refine W.seq_k fun _ k9633 => W.regionT [(0, true), (1, true)] (by kernel_rfl) ?_
          refine Plan.fieldAddr0 FAesExact.fld56_0 rfl rfl <| Plan.load0 h8990 1 rfl rfl rfl (by omega) FAesExact.sc3 <| Plan.nil (k9633 _ _ ?_); clear k9633
          refine W.block ?_
          refine W.seq_k fun _ k9634 => W.regionT [(0, true), (1, true)] (by kernel_rfl) ?_
          refine Plan.cmpP (a := ((script1.getD i_7584 ((0 : Int), (0 : Int), 0#8, 0#8, 0#64, (fun _ => 0#8), ([] : List Byte))).1 : Int)) (b := (1 : Int)) (p := (script1.getD i_7584 ((0 : Int), (0 : Int), 0#8, 0#8, 0#64, (fun _ => 0#8), ([] : List Byte))).1 = 1) rfl rfl rfl rfl icmp_eq ?_
          refine Plan.assign_bool rfl rfl <| Plan.nil (k9634 _ _ ?_); clear k9634
          by_cases hc9635 : (script1.getD i_7584 ((0 : Int), (0 : Int), 0#8, 0#8, 0#64, (fun _ => 0#8), ([] : List Byte))).1 = 1
          ·
           replace hR := ifT hR hc9635
           refine W.condT (congrArg Value.bool (decide_eq_true hc9635)) ?_
           refine W.regionD FAesExact.mixed [(0, true), (1, true), (2, true), (3, true), (5, true), (6, true), (7, true), (8, true), (4, false), (9, false), (10, true), (11, true), (12, true), (13, true), (15, true), (16, true), (14, false), (17, false), (18, true), (19, true), (20, true), (21, true), (22, true), (24, true), (25, true), (23, false), (26, false), (27, true), (28, true), (29, true)] (by kernel_rfl) ?_
           have h9636 := h8990.drew
           refine Plan.fieldAddr 2 FAesExact.fld56_2 rfl rfl <| Plan.load0 h9636 3 rfl rfl rfl (by omega) FAesExact.sc5 <| Plan.fieldAddr 3 FAesExact.fld56_3 rfl rfl <| Plan.load0 h9636 4 rfl rfl rfl (by omega) FAesExact.sc5 <| Plan.fieldAddr 2 FAesExact.fld56_2 rfl rfl <| Plan.load0 h9636 3 rfl rfl rfl (by omega) FAesExact.sc5 <| Plan.fieldAddr 3 FAesExact.fld56_3 rfl rfl <| Plan.load0 h9636 4 rfl rfl rfl (by omega) FAesExact.sc5 ?_
           obtain ⟨x_9638, hr9637, hR⟩ := hR
           refine Plan.call (vs := [VU .u8 ((script1.getD i_7584 ((0 : Int), (0 : Int), 0#8, 0#8, 0#64, (fun _ => 0#8), ([] : List Byte))).2.2.1), VU .u8 ((script1.getD i_7584 ((0 : Int), (0 : Int), 0#8, 0#8, 0#64, (fun _ => 0#8), ([] : List Byte))).2.2.2.1)]) rfl FAesExact.call9 rfl (aes_Mul_ok  hr9637 h9636) ?_
           rintro _ w9639 ⟨rfl, h9639⟩
           refine ⟨_, rfl, .inl ⟨PIn.keep (PIn.cons 4 rfl (PIn.cons 3 rfl (PIn.cons 4 rfl (PIn.cons 3 rfl PIn.nil)))) h9639, ?_⟩⟩
           obtain ⟨x_9641, hr9640, hR⟩ := hR
           refine Plan.call (vs := [VU .u8 ((script1.getD i_7584 ((0 : Int), (0 : Int), 0#8, 0#8, 0#64, (fun _ => 0#8), ([] : List Byte))).2.2.1), VU .u8 ((script1.getD i_7584 ((0 : Int), (0 : Int), 0#8, 0#8, 0#64, (fun _ => 0#8), ([] : List Byte))).2.2.2.1)]) rfl FAesExact.call28 rfl (letheref04_Mul_ok  hr9640 h9639) ?_
           rintro _ w9642 ⟨rfl, h9642⟩
           refine ⟨_, rfl, .inl ⟨PIn.keep (PIn.cons 4 rfl (PIn.cons 3 rfl (PIn.cons 4 rfl (PIn.cons 3 rfl PIn.nil)))) h9642, ?_⟩⟩
           by_cases hc9643 : x_9638 = x_9641
           ·
            replace hR := ifT hR hc9643
            refine Plan.cmpV (a := (x_9638.toNat : Int)) (b := (x_9641.toNat : Int)) (p := x_9638 = x_9641) (v := true) rfl rfl rfl rfl icmp_eqU (decide_eq_true hc9643) <| Plan.move_bool rfl rfl <| Plan.fieldAddr 2 FAesExact.fld56_2 rfl rfl <| Plan.load0 h9642 3 rfl rfl rfl (by omega) FAesExact.sc5 <| Plan.fieldAddr 2 FAesExact.fld56_2 rfl rfl <| Plan.load0 h9642 3 rfl rfl rfl (by omega) FAesExact.sc5 ?_
            obtain ⟨x_9645, hr9644, hR⟩ := hR
            refine Plan.call (vs := [VU .u8 ((script1.getD i_7584 ((0 : Int), (0 : Int), 0#8, 0#8, 0#64, (fun _ => 0#8), ([] : List Byte))).2.2.1)]) rfl FAesExact.call10 rfl (aes_Box_ok  hr9644 h9642) ?_
            rintro _ w9646 ⟨rfl, h9646⟩
            refine ⟨_, rfl, .inl ⟨PIn.keep (PIn.cons 3 rfl (PIn.cons 3 rfl (PIn.cons 4 rfl (PIn.cons 3 rfl (PIn.cons 4 rfl (PIn.cons 3 rfl PIn.nil)))))) h9646, ?_⟩⟩
            obtain ⟨x_9648, hr9647, hR⟩ := hR
            refine Plan.call (vs := [VU .u8 ((script1.getD i_7584 ((0 : Int), (0 : Int), 0#8, 0#8, 0#64, (fun _ => 0#8), ([] : List Byte))).2.2.1)]) rfl FAesExact.call29 rfl (letheref04_Box_ok  hr9647 h9646) ?_
            rintro _ w9649 ⟨rfl, h9649⟩
            refine ⟨_, rfl, .inl ⟨PIn.keep (PIn.cons 3 rfl (PIn.cons 3 rfl (PIn.cons 4 rfl (PIn.cons 3 rfl (PIn.cons 4 rfl (PIn.cons 3 rfl PIn.nil)))))) h9649, ?_⟩⟩
            by_cases hc9650 : x_9645 = x_9648
            ·
             replace hR := ifT hR hc9650
             refine Plan.cmpV (a := (x_9645.toNat : Int)) (b := (x_9648.toNat : Int)) (p := x_9645 = x_9648) (v := true) rfl rfl rfl rfl icmp_eqU (decide_eq_true hc9650) <| Plan.pickTb rfl rfl rfl <| Plan.move_bool rfl rfl <| Plan.fieldAddr 2 FAesExact.fld56_2 rfl rfl <| Plan.load0 h9649 3 rfl rfl rfl (by omega) FAesExact.sc5 <| Plan.fieldAddr 2 FAesExact.fld56_2 rfl rfl <| Plan.load0 h9649 3 rfl rfl rfl (by omega) FAesExact.sc5 ?_
             obtain ⟨x_9652, hr9651, hR⟩ := hR
             refine Plan.call (vs := [VU .u8 ((script1.getD i_7584 ((0 : Int), (0 : Int), 0#8, 0#8, 0#64, (fun _ => 0#8), ([] : List Byte))).2.2.1)]) rfl FAesExact.call18 rfl (aes_Unbox_ok  hr9651 h9649) ?_
             rintro _ w9653 ⟨rfl, h9653⟩
             refine ⟨_, rfl, .inl ⟨PIn.keep (PIn.cons 3 rfl (PIn.cons 3 rfl (PIn.cons 3 rfl (PIn.cons 3 rfl (PIn.cons 4 rfl (PIn.cons 3 rfl (PIn.cons 4 rfl (PIn.cons 3 rfl PIn.nil)))))))) h9653, ?_⟩⟩
             obtain ⟨x_9655, hr9654, hR⟩ := hR
             refine Plan.call (vs := [VU .u8 ((script1.getD i_7584 ((0 : Int), (0 : Int), 0#8, 0#8, 0#64, (fun _ => 0#8), ([] : List Byte))).2.2.1)]) rfl FAesExact.call30 rfl (letheref04_Unbox_ok  hr9654 h9653) ?_
             rintro _ w9656 ⟨rfl, h9656⟩
             refine ⟨_, rfl, .inl ⟨PIn.keep (PIn.cons 3 rfl (PIn.cons 3 rfl (PIn.cons 3 rfl (PIn.cons 3 rfl (PIn.cons 4 rfl (PIn.cons 3 rfl (PIn.cons 4 rfl (PIn.cons 3 rfl PIn.nil)))))))) h9656, ?_⟩⟩
             refine Plan.cmpP (a := (x_9652.toNat : Int)) (b := (x_9655.toNat : Int)) (p := x_9652 = x_9655) rfl rfl rfl rfl icmp_eqU <| Plan.pickTb rfl rfl rfl <| Plan.assign_bool rfl rfl <| Plan.nil ?_
             refine blockR_norm ?_
             have h9657 := St.pickT (C := [_, _, _, _, _, _, _, _, _, _, _, _, _, _, _, _, _, _, _, _, _, _, _, _, _, _, _, _, _, _, _, _]) h9656 [0, 16, 17, 18, 19, 20, 21, 22, 23, 24, 25, 1, 2, 3, 4, 5, 6, 7, 8, 9, 10, 11, 12, 13, 14, 15, 26, 27, 28, 29, 30, 31] (by decide)
             simp only [pick, zfc, zfn, zgz, zgs, zca, zna] at h9657
             obtain ⟨CF9658, hx9658, hy9658⟩ := hFj9632
             exact ⟨x_8984, (decide (x_9652 = x_9655)), m7596, m7597, m7598, m7600, m7601, m7602, m7603, m7605, m7586, m7591, hR, CF9658, L, hx9658, L, rfl, ay0_8985, py0_8986, cy0_8988, Fy0_8989, b7595, m7596.length, am7596, pm7596, cm7596, Fm7596, b7599, m7600.length, am7600, pm7600, cm7600, Fm7600, m7603.length, am7603, pm7603, cm7603, Fm7603, m7605.length, am7605, pm7605, cm7605, Fm7605, (zer (zer (zer zen))), h9657, hf8990_0, hm7596, hm7600, hm7603, hm7605⟩
            ·
             replace hR := ifF hR hc9650
             refine Plan.cmpV (a := (x_9645.toNat : Int)) (b := (x_9648.toNat : Int)) (p := x_9645 = x_9648) (v := false) rfl rfl rfl rfl icmp_eqU (decide_eq_false hc9650) <| Plan.pickTb rfl rfl rfl <| Plan.move_bool rfl rfl <| Plan.passed rfl <| Plan.passed rfl <| Plan.passed rfl <| Plan.passed rfl <| Plan.passed rfl ?_
             refine Plan.passed rfl <| Plan.passed rfl <| Plan.pickFb rfl rfl rfl <| Plan.assign_bool rfl rfl <| Plan.nil ?_
             refine blockR_norm ?_
             have h9659 := St.pickT (C := [_, _, _, _, _, _, _, _, _, _, _, _, _, _, _, _, _, _, _, _, _, _, _, _, _, _, _, _, _, _, _, _]) h9649 [0, 16, 17, 18, 19, 20, 21, 22, 23, 24, 25, 1, 2, 3, 4, 5, 6, 7, 8, 9, 10, 11, 12, 13, 14, 15, 26, 27, 28, 29, 30, 31] (by decide)
             simp only [pick, zfc, zfn, zgz, zgs, zca, zna] at h9659
             obtain ⟨CF9660, hx9660, hy9660⟩ := hFj9632
             exact ⟨x_8984, false, m7596, m7597, m7598, m7600, m7601, m7602, m7603, m7605, m7586, m7591, hR, CF9660, L, hx9660, L, rfl, ay0_8985, py0_8986, cy0_8988, Fy0_8989, b7595, m7596.length, am7596, pm7596, cm7596, Fm7596, b7599, m7600.length, am7600, pm7600, cm7600, Fm7600, m7603.length, am7603, pm7603, cm7603, Fm7603, m7605.length, am7605, pm7605, cm7605, Fm7605, (zer (zer (zer zen))), h9659, hf8990_0, hm7596, hm7600, hm7603, hm7605⟩
           ·
            replace hR := ifF hR hc9643
            refine Plan.cmpV (a := (x_9638.toNat : Int)) (b := (x_9641.toNat : Int)) (p := x_9638 = x_9641) (v := false) rfl rfl rfl rfl icmp_eqU (decide_eq_false hc9643) <| Plan.move_bool rfl rfl <| Plan.passed rfl <| Plan.passed rfl <| Plan.passed rfl <| Plan.passed rfl <| Plan.passed rfl <| Plan.passed rfl ?_
            refine Plan.passed rfl <| Plan.pickFb rfl rfl rfl <| Plan.move_bool rfl rfl <| Plan.passed rfl <| Plan.passed rfl <| Plan.passed rfl <| Plan.passed rfl <| Plan.passed rfl ?_
            refine Plan.passed rfl <| Plan.passed rfl <| Plan.pickFb rfl rfl rfl <| Plan.assign_bool rfl rfl <| Plan.nil ?_
            refine blockR_norm ?_
            have h9661 := St.pickT (C := [_, _, _, _, _, _, _, _, _, _, _, _, _, _, _, _, _, _, _, _, _, _, _, _, _, _, _, _, _, _, _, _]) h9642 [0, 16, 17, 18, 19, 20, 21, 22, 23, 24, 25, 1, 2, 3, 4, 5, 6, 7, 8, 9, 10, 11, 12, 13, 14, 15, 26, 27, 28, 29, 30, 31] (by decide)
            simp only [pick, zfc, zfn, zgz, zgs, zca, zna] at h9661
            obtain ⟨CF9662, hx9662, hy9662⟩ := hFj9632
            exact ⟨x_8984, false, m7596, m7597, m7598, m7600, m7601, m7602, m7603, m7605, m7586, m7591, hR, CF9662, L, hx9662, L, rfl, ay0_8985, py0_8986, cy0_8988, Fy0_8989, b7595, m7596.length, am7596, pm7596, cm7596, Fm7596, b7599, m7600.length, am7600, pm7600, cm7600, Fm7600, m7603.length, am7603, pm7603, cm7603, Fm7603, m7605.length, am7605, pm7605, cm7605, Fm7605, (zer (zer (zer zen))), h9661, hf8990_0, hm7596, hm7600, hm7603, hm7605⟩
          ·
           replace hR := ifF hR hc9635
           refine W.condF (congrArg Value.bool (decide_eq_false hc9635)) ?_
           refine W.seq_k fun _ k9663 => W.regionT [(0, true), (1, true)] (by kernel_rfl) ?_
           refine Plan.cmpP (a := ((script1.getD i_7584 ((0 : Int), (0 : Int), 0#8, 0#8, 0#64, (fun _ => 0#8), ([] : List Byte))).1 : Int)) (b := (2 : Int)) (p := (script1.getD i_7584 ((0 : Int), (0 : Int), 0#8, 0#8, 0#64, (fun _ => 0#8), ([] : List Byte))).1 = 2) rfl rfl rfl rfl icmp_eq ?_
           refine Plan.assign_bool rfl rfl <| Plan.nil (k9663 _ _ ?_); clear k9663
           by_cases hc9664 : (script1.getD i_7584 ((0 : Int), (0 : Int), 0#8, 0#8, 0#64, (fun _ => 0#8), ([] : List Byte))).1 = 2
           ·
            replace hR := ifT hR hc9664
            refine W.condT (congrArg Value.bool (decide_eq_true hc9664)) ?_
            refine W.regionD FAesExact.mixed [(0, true), (1, true), (2, true), (3, true), (5, true), (6, true), (7, true), (8, true), (4, false), (9, false), (10, true), (11, true)] (by kernel_rfl) ?_
            have h9665 := h8990.drew
            refine Plan.fieldAddr 5 FAesExact.fld56_5 rfl rfl <| Plan.loadA1 h9665 6 rfl rfl rfl FAesExact.agg27 <| Plan.fieldAddr 4 FAesExact.fld56_4 rfl rfl <| Plan.load0 h9665 5 rfl rfl rfl (by omega) FAesExact.sc29 <| Plan.fieldAddr 5 FAesExact.fld56_5 rfl rfl <| Plan.loadA1 h9665 6 rfl rfl rfl FAesExact.agg27 <| Plan.fieldAddr 4 FAesExact.fld56_4 rfl rfl <| Plan.load0 h9665 5 rfl rfl rfl (by omega) FAesExact.sc29 ?_
            obtain ⟨x_9667, hr9666, hR⟩ := hR
            refine Plan.call (vs := [AG [(16, fun q => VU .u8 (((script1.getD i_7584 ((0 : Int), (0 : Int), 0#8, 0#8, 0#64, (fun _ => 0#8), ([] : List Byte))).2.2.2.2.2.1) q))], VU .u64 ((script1.getD i_7584 ((0 : Int), (0 : Int), 0#8, 0#8, 0#64, (fun _ => 0#8), ([] : List Byte))).2.2.2.2.1)]) rfl FAesExact.call16 rfl (aes_Next_ok  hr9666 h9665) ?_
            rintro _ w9668 ⟨rfl, h9668⟩
            refine ⟨_, rfl, .inl ⟨PIn.keep (PIn.cons 5 rfl (PIn.cons 6 rfl (PIn.cons 5 rfl (PIn.cons 6 rfl PIn.nil)))) h9668, ?_⟩⟩
            obtain ⟨x_9670, hr9669, hR⟩ := hR
            refine Plan.call (vs := [AG [(16, fun q => VU .u8 (((script1.getD i_7584 ((0 : Int), (0 : Int), 0#8, 0#8, 0#64, (fun _ => 0#8), ([] : List Byte))).2.2.2.2.2.1) q))], VU .u64 ((script1.getD i_7584 ((0 : Int), (0 : Int), 0#8, 0#8, 0#64, (fun _ => 0#8), ([] : List Byte))).2.2.2.2.1)]) rfl FAesExact.call31 rfl (letheref04_Next_ok  hr9669 h9668) ?_
            rintro _ w9671 ⟨rfl, h9671⟩
            refine ⟨_, rfl, .inl ⟨PIn.keep (PIn.cons 5 rfl (PIn.cons 6 rfl (PIn.cons 5 rfl (PIn.cons 6 rfl PIn.nil)))) h9671, ?_⟩⟩
            refine Plan.eqArrV (b := (eqB 16 x_9667 x_9670)) FAesExact.arrI27 rfl rfl rfl rfl <| Plan.assign_bool rfl rfl <| Plan.nil ?_
            refine blockR_norm ?_
            have h9672 := St.pickT (C := [_, _, _, _, _, _, _, _, _, _, _, _, _, _, _, _, _, _, _, _, _, _, _, _, _, _, _, _, _, _, _, _]) h9671 [0, 16, 17, 18, 19, 20, 21, 22, 23, 24, 25, 1, 2, 3, 4, 5, 6, 7, 8, 9, 10, 11, 12, 13, 14, 15, 26, 27, 28, 29, 30, 31] (by decide)
            simp only [pick, zfc, zfn, zgz, zgs, zca, zna] at h9672
            obtain ⟨CF9673, hx9673, hy9673⟩ := hFj9632
            exact ⟨x_8984, (eqB 16 x_9667 x_9670), m7596, m7597, m7598, m7600, m7601, m7602, m7603, m7605, m7586, m7591, hR, CF9673, L, hx9673, L, rfl, ay0_8985, py0_8986, cy0_8988, Fy0_8989, b7595, m7596.length, am7596, pm7596, cm7596, Fm7596, b7599, m7600.length, am7600, pm7600, cm7600, Fm7600, m7603.length, am7603, pm7603, cm7603, Fm7603, m7605.length, am7605, pm7605, cm7605, Fm7605, (zer (zer (zer zen))), h9672, hf8990_0, hm7596, hm7600, hm7603, hm7605⟩
           ·
            replace hR := ifF hR hc9664
            refine W.condF (congrArg Value.bool (decide_eq_false hc9664)) ?_
            refine W.seq_k fun _ k9674 => W.regionT [(0, true), (1, true)] (by kernel_rfl) ?_
            refine Plan.cmpP (a := ((script1.getD i_7584 ((0 : Int), (0 : Int), 0#8, 0#8, 0#64, (fun _ => 0#8), ([] : List Byte))).1 : Int)) (b := (3 : Int)) (p := (script1.getD i_7584 ((0 : Int), (0 : Int), 0#8, 0#8, 0#64, (fun _ => 0#8), ([] : List Byte))).1 = 3) rfl rfl rfl rfl icmp_eq ?_
            refine Plan.assign_bool rfl rfl <| Plan.nil (k9674 _ _ ?_); clear k9674
            by_cases hc9675 : (script1.getD i_7584 ((0 : Int), (0 : Int), 0#8, 0#8, 0#64, (fun _ => 0#8), ([] : List Byte))).1 = 3
            ·
             replace hR := ifT hR hc9675
             refine W.condT (congrArg Value.bool (decide_eq_true hc9675)) ?_
             refine W.seq_k fun _ k9676 => ?_
             obtain ⟨x_9852, ok9853, m9855, m9856, m9857, m9858, m9860, m9861, m9862, m9863, m9865, m9866, m9867, m9869, m9870, m9871, hX9872, hR09872⟩ := hR
             refine W.cutN (fun e w => ∃ y_x_9852 : List Byte, ∃ y_ok9853 : Bool, ∃ y_m9855 : Nat → BitVec 8, ∃ y_m9856 : Nat → BitVec 8, ∃ y_m9857 : Nat → BitVec 8, ∃ y_m9858 : Nat → BitVec 8, ∃ y_m9860 : Nat → BitVec 8, ∃ y_m9861 : Nat → BitVec 8, ∃ y_m9862 : Nat → BitVec 8, ∃ y_m9863 : Nat → BitVec 8, ∃ y_m9865 : List (Nat → BitVec 8), ∃ y_m9866 : Nat → BitVec 8, ∃ y_m9867 : Nat → BitVec 8, ∃ y_m9869 : List (Nat → BitVec 8), ∃ y_m9870 : Nat → BitVec 8, ∃ y_m9871 : Nat → BitVec 8, (x_9852 = y_x_9852 ∧ ok9853 = y_ok9853 ∧ m9855 = y_m9855 ∧ m9856 = y_m9856 ∧ m9857 = y_m9857 ∧ m9858 = y_m9858 ∧ m9860 = y_m9860 ∧ m9861 = y_m9861 ∧ m9862 = y_m9862 ∧ m9863 = y_m9863 ∧ m9865 = y_m9865 ∧ m9866 = y_m9866 ∧ m9867 = y_m9867 ∧ m9869 = y_m9869 ∧ m9870 = y_m9870 ∧ m9871 = y_m9871) ∧ ∃ ax_9852 : Option Addr, ∃ px_9852 : Option Nat, ∃ cx_9852 : Nat, ∃ Fx_9852 : Nat → Byte, ∃ b9854 : Nat, ∃ b9859 : Nat, ∃ b9864 : Nat, ∃ n_m9865 : Nat, ∃ am9865 : Option Addr, ∃ pm9865 : Option Nat, ∃ cm9865 : Nat, ∃ Fm9865 : Nat → Value, ∃ b9868 : Nat, ∃ n_m9869 : Nat, ∃ am9869 : Option Addr, ∃ pm9869 : Option Nat, ∃ cm9869 : Nat, ∃ Fm9869 : Nat → Value, EnvHas e [(6, .slice ax_9852 x_8984.length cx_9852), (8, .bool y_ok9853)] ∧ St B w0 (⟨px_9852, 0, cx_9852, fun q => VU .u8 (Fx_9852 q), true⟩ :: ⟨some b9854, 0, 240, fun q => VU .u8 (y_m9855 q), true⟩ :: ⟨some b9854, 240, 256, fun q => VU .u8 (y_m9856 q), true⟩ :: ⟨some b9854, 496, 256, fun q => VU .u8 (y_m9857 q), true⟩ :: ⟨some b9854, 752, 256, fun q => VU .u8 (y_m9858 q), true⟩ :: ⟨some b9859, 0, 240, fun q => VU .u8 (y_m9860 q), true⟩ :: ⟨some b9859, 240, 256, fun q => VU .u8 (y_m9861 q), true⟩ :: ⟨some b9859, 496, 256, fun q => VU .u8 (y_m9862 q), true⟩ :: ⟨some b9859, 752, 256, fun q => VU .u8 (y_m9863 q), true⟩ :: ⟨pm9865, 0, cm9865 * 4, Fm9865, true⟩ :: ⟨some b9864, 0, 1, fun _ => .slice am9865 n_m9865 cm9865, true⟩ :: ⟨some b9864, 1, 256, fun q => VU .u8 (y_m9866 q), true⟩ :: ⟨some b9864, 257, 256, fun q => VU .u8 (y_m9867 q), true⟩ :: ⟨pm9869, 0, cm9869 * 4, Fm9869, true⟩ :: ⟨some b9868, 0, 1, fun _ => .slice am9869 n_m9869 cm9869, true⟩ :: ⟨some b9868, 1, 256, fun q => VU .u8 (y_m9870 q), true⟩ :: ⟨some b9868, 257, 256, fun q => VU .u8 (y_m9871 q), true⟩ :: ⟨pm7603, 0, cm7603 * 1, Fm7603, true⟩ :: ⟨pm7605, 0, cm7605 * 1, Fm7605, true⟩ :: ⟨some b4, 0, 1, fun _ => .pointer (some ⟨b9854, 0, none⟩), true⟩ :: ⟨some b4, 1, 1, fun _ => .pointer (some ⟨b9859, 0, none⟩), true⟩ :: ⟨some b4, 2, 1, fun _ => .pointer (some ⟨b9864, 0, none⟩), true⟩ :: ⟨some b4, 3, 1, fun _ => .pointer (some ⟨b9868, 0, none⟩), true⟩ :: ⟨some b4, 4, 1, fun _ => .slice am7603 m7603.length cm7603, true⟩ :: ⟨some b4, 5, 1, fun _ => .slice am7605 m7605.length cm7605, true⟩ :: L) w ∧ Ow ax_9852 px_9852 x_8984.length cx_9852 Fx_9852 y_x_9852 ∧ LO D76 [] am9865 pm9865 n_m9865 cm9865 Fm9865 y_m9865 ∧ LO D76 [] am9869 pm9869 n_m9869 cm9869 Fm9869 y_m9869) ?_ ?_
             ·
              replace hR := hX9872
              refine W.regionT [(0, true), (1, true), (2, true), (3, false), (4, true), (5, true), (6, true), (7, true), (8, false), (9, true), (10, true)] (by kernel_rfl) ?_
              refine Plan.move_ptr rfl rfl <| Plan.loadA h8990 rfl rfl (.cons 1 rfl (.cons 2 rfl (.cons 3 rfl (.cons 4 rfl (.cons 5 rfl (.cons 6 rfl (.cons 7 rfl .nil))))))) FAesExact.agg56 <| Plan.move_slice rfl rfl ?_
              obtain ⟨t9945, m9947, m9948, m9949, m9950, m9952, m9953, m9954, m9955, m9957, m9958, m9959, m9961, m9962, m9963, hX9944, hR09944⟩ := hR
              refine Plan.call (vs := [.pointer (some ⟨b4, 0, none⟩), AG [(1, fun _ => .int .i64 ((script1.getD i_7584 ((0 : Int), (0 : Int), 0#8, 0#8, 0#64, (fun _ => 0#8), ([] : List Byte))).1)), (1, fun _ => .int .i64 ((script1.getD i_7584 ((0 : Int), (0 : Int), 0#8, 0#8, 0#64, (fun _ => 0#8), ([] : List Byte))).2.1)), (1, fun _ => VU .u8 ((script1.getD i_7584 ((0 : Int), (0 : Int), 0#8, 0#8, 0#64, (fun _ => 0#8), ([] : List Byte))).2.2.1)), (1, fun _ => VU .u8 ((script1.getD i_7584 ((0 : Int), (0 : Int), 0#8, 0#8, 0#64, (fun _ => 0#8), ([] : List Byte))).2.2.2.1)), (1, fun _ => VU .u64 ((script1.getD i_7584 ((0 : Int), (0 : Int), 0#8, 0#8, 0#64, (fun _ => 0#8), ([] : List Byte))).2.2.2.2.1)), (16, fun q => VU .u8 (((script1.getD i_7584 ((0 : Int), (0 : Int), 0#8, 0#8, 0#64, (fun _ => 0#8), ([] : List Byte))).2.2.2.2.2.1) q)), (1, fun _ => .slice ((b7644).1) (((script1.getD i_7584 ((0 : Int), (0 : Int), 0#8, 0#8, 0#64, (fun _ => 0#8), ([] : List Byte))).2.2.2.2.2.2).length) ((b7644).2))], .slice (if cy0_8988 = 0 then (ay0_8985 : Option Addr) else (ay0_8985 : Option Addr).map (·.add (0 * 1))) (((script1.getD i_7584 ((0 : Int), (0 : Int), 0#8, 0#8, 0#64, (fun _ => 0#8), ([] : List Byte))).2.2.2.2.2.2).length - 0) (cy0_8988 - 0)]) (R := fun e w => ∃ y_t9945 : Bool, ∃ y_m9947 : Nat → BitVec 8, ∃ y_m9948 : Nat → BitVec 8, ∃ y_m9949 : Nat → BitVec 8, ∃ y_m9950 : Nat → BitVec 8, ∃ y_m9952 : Nat → BitVec 8, ∃ y_m9953 : Nat → BitVec 8, ∃ y_m9954 : Nat → BitVec 8, ∃ y_m9955 : Nat → BitVec 8, ∃ y_m9957 : List (Nat → BitVec 8), ∃ y_m9958 : Nat → BitVec 8, ∃ y_m9959 : Nat → BitVec 8, ∃ y_m9961 : List (Nat → BitVec 8), ∃ y_m9962 : Nat → BitVec 8, ∃ y_m9963 : Nat → BitVec 8, (t9945 = y_t9945 ∧ m9947 = y_m9947 ∧ m9948 = y_m9948 ∧ m9949 = y_m9949 ∧ m9950 = y_m9950 ∧ m9952 = y_m9952 ∧ m9953 = y_m9953 ∧ m9954 = y_m9954 ∧ m9955 = y_m9955 ∧ m9957 = y_m9957 ∧ m9958 = y_m9958 ∧ m9959 = y_m9959 ∧ m9961 = y_m9961 ∧ m9962 = y_m9962 ∧ m9963 = y_m9963) ∧ ∃ b9946 : Nat, ∃ b9951 : Nat, ∃ b9956 : Nat, ∃ n_m9957 : Nat, ∃ am9957 : Option Addr, ∃ pm9957 : Option Nat, ∃ cm9957 : Nat, ∃ Fm9957 : Nat → Value, ∃ b9960 : Nat, ∃ n_m9961 : Nat, ∃ am9961 : Option Addr, ∃ pm9961 : Option Nat, ∃ cm9961 : Nat, ∃ Fm9961 : Nat → Value, e = .returned (.bool y_t9945) ∧ St B w0 (⟨some b9946, 0, 240, fun q => VU .u8 (y_m9947 q), true⟩ :: ⟨some b9946, 240, 256, fun q => VU .u8 (y_m9948 q), true⟩ :: ⟨some b9946, 496, 256, fun q => VU .u8 (y_m9949 q), true⟩ :: ⟨some b9946, 752, 256, fun q => VU .u8 (y_m9950 q), true⟩ :: ⟨some b9951, 0, 240, fun q => VU .u8 (y_m9952 q), true⟩ :: ⟨some b9951, 240, 256, fun q => VU .u8 (y_m9953 q), true⟩ :: ⟨some b9951, 496, 256, fun q => VU .u8 (y_m9954 q), true⟩ :: ⟨some b9951, 752, 256, fun q => VU .u8 (y_m9955 q), true⟩ :: ⟨pm9957, 0, cm9957 * 4, Fm9957, true⟩ :: ⟨some b9956, 0, 1, fun _ => .slice am9957 n_m9957 cm9957, true⟩ :: ⟨some b9956, 1, 256, fun q => VU .u8 (y_m9958 q), true⟩ :: ⟨some b9956, 257, 256, fun q => VU .u8 (y_m9959 q), true⟩ :: ⟨pm9961, 0, cm9961 * 4, Fm9961, true⟩ :: ⟨some b9960, 0, 1, fun _ => .slice am9961 n_m9961 cm9961, true⟩ :: ⟨some b9960, 1, 256, fun q => VU .u8 (y_m9962 q), true⟩ :: ⟨some b9960, 257, 256, fun q => VU .u8 (y_m9963 q), true⟩ :: ⟨py0_8986, 0, cy0_8988, fun q => VU .u8 (Fy0_8989 q), true⟩ :: ⟨some b8979, 0, 1, fun _ => .int .i64 ((script1.getD i_7584 ((0 : Int), (0 : Int), 0#8, 0#8, 0#64, (fun _ => 0#8), ([] : List Byte))).1), true⟩ :: ⟨some b8979, 1, 1, fun _ => .int .i64 ((script1.getD i_7584 ((0 : Int), (0 : Int), 0#8, 0#8, 0#64, (fun _ => 0#8), ([] : List Byte))).2.1), true⟩ :: ⟨some b8979, 2, 1, fun _ => VU .u8 ((script1.getD i_7584 ((0 : Int), (0 : Int), 0#8, 0#8, 0#64, (fun _ => 0#8), ([] : List Byte))).2.2.1), true⟩ :: ⟨some b8979, 3, 1, fun _ => VU .u8 ((script1.getD i_7584 ((0 : Int), (0 : Int), 0#8, 0#8, 0#64, (fun _ => 0#8), ([] : List Byte))).2.2.2.1), true⟩ :: ⟨some b8979, 4, 1, fun _ => VU .u64 ((script1.getD i_7584 ((0 : Int), (0 : Int), 0#8, 0#8, 0#64, (fun _ => 0#8), ([] : List Byte))).2.2.2.2.1), true⟩ :: ⟨some b8979, 5, 16, fun q => VU .u8 (((script1.getD i_7584 ((0 : Int), (0 : Int), 0#8, 0#8, 0#64, (fun _ => 0#8), ([] : List Byte))).2.2.2.2.2.1) q), true⟩ :: ⟨some b8979, 21, 1, fun _ => .slice ((b7644).1) (((script1.getD i_7584 ((0 : Int), (0 : Int), 0#8, 0#8, 0#64, (fun _ => 0#8), ([] : List Byte))).2.2.2.2.2.2).length) ((b7644).2), true⟩ :: ⟨pm7603, 0, cm7603 * 1, Fm7603, true⟩ :: ⟨pm7605, 0, cm7605 * 1, Fm7605, true⟩ :: ⟨some b4, 0, 1, fun _ => .pointer (some ⟨b9946, 0, none⟩), true⟩ :: ⟨some b4, 1, 1, fun _ => .pointer (some ⟨b9951, 0, none⟩), true⟩ :: ⟨some b4, 2, 1, fun _ => .pointer (some ⟨b9956, 0, none⟩), true⟩ :: ⟨some b4, 3, 1, fun _ => .pointer (some ⟨b9960, 0, none⟩), true⟩ :: ⟨some b4, 4, 1, fun _ => .slice am7603 m7603.length cm7603, true⟩ :: ⟨some b4, 5, 1, fun _ => .slice am7605 m7605.length cm7605, true⟩ :: L) w ∧ LO D76 [] am9957 pm9957 n_m9957 cm9957 Fm9957 y_m9957 ∧ LO D76 [] am9961 pm9961 n_m9961 cm9961 Fm9961 y_m9961) rfl FAesExact.call32 rfl ?_ ?_
              ·
               replace hR := hX9944
               refine W.enter 48 Try.func32 rfl rfl rfl ?_
               refine W.seq_k fun _ k9964 => W.regionT [(0, false), (1, true)] (by kernel_rfl) ?_
               refine Plan.boxA h8990 rfl rfl PIn.nil fun b9965 w9965 hb9965 h9965 => ?_
               simp only [rngs, Nat.zero_add, Nat.reduceAdd, zca, zna] at h9965
               refine Plan.assign_bool rfl rfl <| Plan.nil (k9964 _ _ ?_); clear k9964
               refine W.seq_k fun _ k9966 => W.regionT [(0, true), (1, true), (2, true), (3, true)] (by kernel_rfl) ?_
               refine Plan.fieldAddr 1 FAesExact.fld56_1 rfl rfl <| Plan.load0 h9965 1 rfl rfl rfl (by omega) FAesExact.sc3 ?_
               obtain ⟨kz9967, hkz9967, hR⟩ := hR
               refine Plan.maskZ (a := (script1.getD i_7584 ((0 : Int), (0 : Int), 0#8, 0#8, 0#64, (fun _ => 0#8), ([] : List Byte))).2.1) 1 hkz9967 (by decide) rfl rfl rfl ?_
               refine Plan.assign_int rfl rfl <| Plan.nil (k9966 _ _ ?_); clear k9966
               refine W.seq_k fun _ k9968 => W.regionT [(0, true), (1, false), (2, true), (3, true), (4, true), (5, true), (6, true)] (by kernel_rfl) ?_
               refine Plan.move_slice rfl rfl ?_
               rcases hR with ⟨x_9970, hr9969, hR⟩ | ⟨x_9971, x_9972, x_9973, x_9974, x_9975, hr9969, hR⟩
               ·
                refine Plan.call (vs := [.slice (if cy0_8988 = 0 then (ay0_8985 : Option Addr) else (ay0_8985 : Option Addr).map (·.add (0 * 1))) (((script1.getD i_7584 ((0 : Int), (0 : Int), 0#8, 0#8, 0#64, (fun _ => 0#8), ([] : List Byte))).2.2.2.2.2.2).length - 0) (cy0_8988 - 0)]) rfl FAesExact.call19 rfl (aes_New_ok (by exact ((hf8990_0.bx 7 rfl).seg (lo := 0) (hi := ((script1.getD i_7584 ((0 : Int), (0 : Int), 0#8, 0#8, 0#64, (fun _ => 0#8), ([] : List Byte))).2.2.2.2.2.2).length) hc8992)) hr9969 h9965) ?_
                rintro _ w9976 ⟨rfl, h9976⟩
                refine ⟨_, rfl, .inl ⟨PIn.keep PIn.nil h9976, ?_⟩⟩
                refine Plan.move_tuple rfl rfl <| Plan.extract_ptr rfl rfl rfl <| Plan.extract_int rfl rfl rfl <| Plan.assign_ptr rfl rfl <| Plan.assign_int rfl rfl <| Plan.nil (k9968 _ _ ?_); clear k9968
                refine W.seq_k fun _ k9977 => W.seq_k fun _ k9978 => ?_
                refine W.regionT [(0, true), (1, true), (2, true), (3, true)] (by kernel_rfl) ?_
                refine Plan.fieldAddr 21 FAesExact.fld56_6 rfl rfl <| Plan.load0 h9976 6 rfl rfl rfl (by omega) FAesExact.sc28 <| Plan.len FAesExact.isl28 rfl rfl ?_
                refine Plan.cmpP (a := (((((script1.getD i_7584 ((0 : Int), (0 : Int), 0#8, 0#8, 0#64, (fun _ => 0#8), ([] : List Byte))).2.2.2.2.2.2).length : Nat) : Int) : Int)) (b := (32 : Int)) (p := ((script1.getD i_7584 ((0 : Int), (0 : Int), 0#8, 0#8, 0#64, (fun _ => 0#8), ([] : List Byte))).2.2.2.2.2.2).length ≠ 32) rfl rfl rfl rfl icmp_neN ?_
                refine Plan.nil (k9978 _ _ ?_); clear k9978
                by_cases hc9979 : ((script1.getD i_7584 ((0 : Int), (0 : Int), 0#8, 0#8, 0#64, (fun _ => 0#8), ([] : List Byte))).2.2.2.2.2.2).length ≠ 32
                ·
                 replace hR := ifT hR hc9979
                 refine W.condT (congrArg Value.bool (decide_eq_true hc9979)) ?_
                 refine W.seq_k fun _ k9980 => W.regionT [(0, true), (1, true), (2, true), (3, true), (4, true), (5, true), (6, true)] (by kernel_rfl) ?_
                 refine Plan.move_int rfl rfl ?_
                 by_cases hc9981 : x_9970 = 40
                 ·
                  replace hR := ifT hR hc9981
                  refine Plan.cmpV (a := (((x_9970 : Nat) : Int) : Int)) (b := (40 : Int)) (p := x_9970 = 40) (v := true) rfl rfl rfl rfl icmp_eqN (decide_eq_true hc9981) <| Plan.move_bool rfl rfl <| Plan.move_ptr rfl rfl <| Plan.eqNil (b := true) FAesExact.ptr30 rfl rfl rfl rfl <| Plan.pickTb rfl rfl rfl <| Plan.assign_bool rfl rfl <| Plan.nil (k9980 _ _ ?_); clear k9980
                  refine W.ret (thenR_ret (finR_ret ?_))
                  have h9982 := St.pickT (C := [_, _, _, _, _, _, _, _, _, _, _, _, _, _, _, _, _, _, _, _, _, _, _, _, _, _, _, _, _, _, _, _, _, _, _, _, _, _, _]) h9976 [15, 16, 17, 18, 19, 20, 21, 22, 23, 24, 25, 26, 27, 28, 29, 30, 7, 8, 9, 10, 11, 12, 13, 14, 31, 32, 33, 34, 35, 36, 37, 38] (by decide)
                  simp only [pick, zfc, zfn, zgz, zgs, zca, zna] at h9982
                  refine RetOk.mk (.tmp_bool rfl .nil) ?_
                  exact ⟨true, m7586, m7587, m7588, m7589, m7591, m7592, m7593, m7594, m7596, m7597, m7598, m7600, m7601, m7602, hR, b7585, b7590, b7595, m7596.length, am7596, pm7596, cm7596, Fm7596, b7599, m7600.length, am7600, pm7600, cm7600, Fm7600, rfl, h9982, hm7596, hm7600⟩
                 ·
                  replace hR := ifF hR hc9981
                  refine Plan.cmpV (a := (((x_9970 : Nat) : Int) : Int)) (b := (40 : Int)) (p := x_9970 = 40) (v := false) rfl rfl rfl rfl icmp_eqN (decide_eq_false hc9981) <| Plan.move_bool rfl rfl <| Plan.passed rfl <| Plan.passed rfl <| Plan.pickFb rfl rfl rfl <| Plan.assign_bool rfl rfl <| Plan.nil (k9980 _ _ ?_); clear k9980
                  refine W.ret (thenR_ret (finR_ret ?_))
                  have h9983 := St.pickT (C := [_, _, _, _, _, _, _, _, _, _, _, _, _, _, _, _, _, _, _, _, _, _, _, _, _, _, _, _, _, _, _, _, _, _, _, _, _, _, _]) h9976 [15, 16, 17, 18, 19, 20, 21, 22, 23, 24, 25, 26, 27, 28, 29, 30, 7, 8, 9, 10, 11, 12, 13, 14, 31, 32, 33, 34, 35, 36, 37, 38] (by decide)
                  simp only [pick, zfc, zfn, zgz, zgs, zca, zna] at h9983
                  refine RetOk.mk (.tmp_bool rfl .nil) ?_
                  exact ⟨false, m7586, m7587, m7588, m7589, m7591, m7592, m7593, m7594, m7596, m7597, m7598, m7600, m7601, m7602, hR, b7585, b7590, b7595, m7596.length, am7596, pm7596, cm7596, Fm7596, b7599, m7600.length, am7600, pm7600, cm7600, Fm7600, rfl, h9983, hm7596, hm7600⟩
                ·
                 replace hR := ifF hR hc9979
                 refine W.condF (congrArg Value.bool (decide_eq_false hc9979)) ?_
                 refine W.skip ?_
                 refine k9977 _ _ ?_; clear k9977
                 refine W.seq_k fun _ k9984 => ?_
                 by_cases hc9985 : kz9967 = 0
                 ·
                  replace hR := ifT hR hc9985
                  subst hc9985
                  refine W.regionT [(0, true), (1, true), (2, true), (3, true), (4, true), (5, true), (6, false)] (by kernel_rfl) ?_
                  refine Plan.move_ptr rfl rfl <| Plan.move_int rfl rfl <| Plan.move_ptr rfl rfl <| Plan.nilCheck rfl rfl <| Plan.fieldAddr0 FAesExact.fld53_0 rfl rfl <| Plan.idxArrO (j := 0) (o' := 0) FAesExact.arr46 rfl rfl rfl (by omega) rfl ?_
                  exact hR.elim
                 ·
                  replace hR := ifF hR hc9985
                  obtain ⟨hc9987, hR⟩ := hR
                  subst hc9987
                  refine W.regionT [(0, true), (1, true), (2, true), (3, true), (4, true), (5, true), (6, false)] (by kernel_rfl) ?_
                  refine Plan.move_ptr rfl rfl <| Plan.move_int rfl rfl <| Plan.move_ptr rfl rfl <| Plan.nilCheck rfl rfl <| Plan.fieldAddr0 FAesExact.fld53_0 rfl rfl <| Plan.idxArrO (j := 1) (o' := 1) FAesExact.arr46 rfl rfl rfl (by omega) rfl ?_
                  exact hR.elim
               ·
                refine Plan.call (vs := [.slice (if cy0_8988 = 0 then (ay0_8985 : Option Addr) else (ay0_8985 : Option Addr).map (·.add (0 * 1))) (((script1.getD i_7584 ((0 : Int), (0 : Int), 0#8, 0#8, 0#64, (fun _ => 0#8), ([] : List Byte))).2.2.2.2.2.2).length - 0) (cy0_8988 - 0)]) rfl FAesExact.call19 rfl (aes_New_ok (by exact ((hf8990_0.bx 7 rfl).seg (lo := 0) (hi := ((script1.getD i_7584 ((0 : Int), (0 : Int), 0#8, 0#8, 0#64, (fun _ => 0#8), ([] : List Byte))).2.2.2.2.2.2).length) hc8992)) hr9969 h9965) ?_
                rintro _ w9990 ⟨b0_9989, rfl, h9990⟩
                refine ⟨_, rfl, .inl ⟨PIn.keep PIn.nil h9990, ?_⟩⟩
                refine Plan.move_tuple rfl rfl <| Plan.extract_ptr rfl rfl rfl <| Plan.extract_int rfl rfl rfl <| Plan.assign_ptr rfl rfl <| Plan.assign_int rfl rfl <| Plan.nil (k9968 _ _ ?_); clear k9968
                refine W.seq_k fun _ k9991 => W.seq_k fun _ k9992 => ?_
                refine W.regionT [(0, true), (1, true), (2, true), (3, true)] (by kernel_rfl) ?_
                refine Plan.fieldAddr 21 FAesExact.fld56_6 rfl rfl <| Plan.load0 h9990 10 rfl rfl rfl (by omega) FAesExact.sc28 <| Plan.len FAesExact.isl28 rfl rfl ?_
                refine Plan.cmpP (a := (((((script1.getD i_7584 ((0 : Int), (0 : Int), 0#8, 0#8, 0#64, (fun _ => 0#8), ([] : List Byte))).2.2.2.2.2.2).length : Nat) : Int) : Int)) (b := (32 : Int)) (p := ((script1.getD i_7584 ((0 : Int), (0 : Int), 0#8, 0#8, 0#64, (fun _ => 0#8), ([] : List Byte))).2.2.2.2.2.2).length ≠ 32) rfl rfl rfl rfl icmp_neN ?_
                refine Plan.nil (k9992 _ _ ?_); clear k9992
                by_cases hc9993 : ((script1.getD i_7584 ((0 : Int), (0 : Int), 0#8, 0#8, 0#64, (fun _ => 0#8), ([] : List Byte))).2.2.2.2.2.2).length ≠ 32
                ·
                 replace hR := ifT hR hc9993
                 refine W.condT (congrArg Value.bool (decide_eq_true hc9993)) ?_
                 refine W.seq_k fun _ k9994 => W.regionT [(0, true), (1, true), (2, true), (3, true), (4, true), (5, true), (6, true)] (by kernel_rfl) ?_
                 refine Plan.move_int rfl rfl ?_
                 by_cases hc9995 : x_9975 = 40
                 ·
                  replace hR := ifT hR hc9995
                  refine Plan.cmpV (a := (((x_9975 : Nat) : Int) : Int)) (b := (40 : Int)) (p := x_9975 = 40) (v := true) rfl rfl rfl rfl icmp_eqN (decide_eq_true hc9995) <| Plan.move_bool rfl rfl <| Plan.move_ptr rfl rfl <| Plan.eqNil (b := false) FAesExact.ptr30 rfl rfl rfl rfl <| Plan.pickTb rfl rfl rfl <| Plan.assign_bool rfl rfl <| Plan.nil (k9994 _ _ ?_); clear k9994
                  refine W.ret (thenR_ret (finR_ret ?_))
                  have h9996 := St.pickT (C := [_, _, _, _, _, _, _, _, _, _, _, _, _, _, _, _, _, _, _, _, _, _, _, _, _, _, _, _, _, _, _, _, _, _, _, _, _, _, _, _, _, _, _]) h9990 [19, 20, 21, 22, 23, 24, 25, 26, 27, 28, 29, 30, 31, 32, 33, 34, 11, 12, 13, 14, 15, 16, 17, 18, 35, 36, 37, 38, 39, 40, 41, 42] (by decide)
                  simp only [pick, zfc, zfn, zgz, zgs, zca, zna] at h9996
                  refine RetOk.mk (.tmp_bool rfl .nil) ?_
                  exact ⟨false, m7586, m7587, m7588, m7589, m7591, m7592, m7593, m7594, m7596, m7597, m7598, m7600, m7601, m7602, hR, b7585, b7590, b7595, m7596.length, am7596, pm7596, cm7596, Fm7596, b7599, m7600.length, am7600, pm7600, cm7600, Fm7600, rfl, h9996, hm7596, hm7600⟩
                 ·
                  replace hR := ifF hR hc9995
                  refine Plan.cmpV (a := (((x_9975 : Nat) : Int) : Int)) (b := (40 : Int)) (p := x_9975 = 40) (v := false) rfl rfl rfl rfl icmp_eqN (decide_eq_false hc9995) <| Plan.move_bool rfl rfl <| Plan.passed rfl <| Plan.passed rfl <| Plan.pickFb rfl rfl rfl <| Plan.assign_bool rfl rfl <| Plan.nil (k9994 _ _ ?_); clear k9994
                  refine W.ret (thenR_ret (finR_ret ?_))
                  have h9997 := St.pickT (C := [_, _, _, _, _, _, _, _, _, _, _, _, _, _, _, _, _, _, _, _, _, _, _, _, _, _, _, _, _, _, _, _, _, _, _, _, _, _, _, _, _, _, _]) h9990 [19, 20, 21, 22, 23, 24, 25, 26, 27, 28, 29, 30, 31, 32, 33, 34, 11, 12, 13, 14, 15, 16, 17, 18, 35, 36, 37, 38, 39, 40, 41, 42] (by decide)
                  simp only [pick, zfc, zfn, zgz, zgs, zca, zna] at h9997
                  refine RetOk.mk (.tmp_bool rfl .nil) ?_
                  exact ⟨false, m7586, m7587, m7588, m7589, m7591, m7592, m7593, m7594, m7596, m7597, m7598, m7600, m7601, m7602, hR, b7585, b7590, b7595, m7596.length, am7596, pm7596, cm7596, Fm7596, b7599, m7600.length, am7600, pm7600, cm7600, Fm7600, rfl, h9997, hm7596, hm7600⟩
                ·
                 replace hR := ifF hR hc9993
                 refine W.condF (congrArg Value.bool (decide_eq_false hc9993)) ?_
                 refine W.skip ?_
                 refine k9991 _ _ ?_; clear k9991
                 refine W.seq_k fun _ k9998 => ?_
                 by_cases hc9999 : kz9967 = 0
                 ·
                  replace hR := ifT hR hc9999
                  subst hc9999
                  refine W.regionT [(0, true), (1, true), (2, true), (3, true), (4, true), (5, true), (6, false)] (by kernel_rfl) ?_
                  refine Plan.move_ptr rfl rfl <| Plan.move_int rfl rfl <| Plan.move_ptr rfl rfl <| Plan.nilCheck rfl rfl <| Plan.fieldAddr0 FAesExact.fld53_0 rfl rfl <| Plan.idxArrO (j := 0) (o' := 0) FAesExact.arr46 rfl rfl rfl (by omega) rfl ?_
                  refine Plan.storeC h9990 37 rfl rfl rfl rfl rfl FAesExact.sz30 rfl fun w10000 h10000 => ?_
                  simp only [zca, zna, zsz, zss] at h10000
                  refine Plan.nil (k9998 _ _ ?_); clear k9998
                  refine W.seq_k fun _ k10001 => ?_
                  refine W.regionD FAesExact.mixed [(0, true), (1, true), (2, true), (3, true), (5, true), (6, true), (4, false), (7, true), (8, false)] (by kernel_rfl) ?_
                  have h10002 := h10000.drew
                  refine Plan.move_ptr rfl rfl <| Plan.move_int rfl rfl <| Plan.fieldAddr 21 FAesExact.fld56_6 rfl rfl <| Plan.load0 h10002 10 rfl rfl rfl (by omega) FAesExact.sc28 <| Plan.nilCheck rfl rfl <| Plan.fieldAddr 2 FAesExact.fld53_1 rfl rfl ?_
                  rcases hR with ⟨hr10003, hR⟩ | ⟨x_10004, x_10005, x_10006, hr10003, hR⟩
                  ·
                   refine Plan.call (vs := [.slice ((b7644).1) (((script1.getD i_7584 ((0 : Int), (0 : Int), 0#8, 0#8, 0#64, (fun _ => 0#8), ([] : List Byte))).2.2.2.2.2.2).length) ((b7644).2)]) rfl FAesExact.call38 rfl (letheref04_New_ok (hv7644_6.app [_, _, _, _, _, _, _, _, _, _, _, _, _, _, _, _, _, _, _, _, _, _, _, _, _, _, _, _, _, _, _, _, _, _, _, _, _, _, _, _, _, _, _]) hr10003 h10002) ?_
                   rintro _ w10007 ⟨rfl, h10007⟩
                   refine ⟨_, rfl, .inr ⟨rfl, ?_⟩⟩
                   refine Plan.idxArrO (j := 0) (o' := 2) FAesExact.arr48 rfl rfl rfl (by omega) rfl ?_
                   exact hR.elim
                  ·
                   refine Plan.call (vs := [.slice ((b7644).1) (((script1.getD i_7584 ((0 : Int), (0 : Int), 0#8, 0#8, 0#64, (fun _ => 0#8), ([] : List Byte))).2.2.2.2.2.2).length) ((b7644).2)]) rfl FAesExact.call38 rfl (letheref04_New_ok (hv7644_6.app [_, _, _, _, _, _, _, _, _, _, _, _, _, _, _, _, _, _, _, _, _, _, _, _, _, _, _, _, _, _, _, _, _, _, _, _, _, _, _, _, _, _, _]) hr10003 h10002) ?_
                   rintro _ w10015 ⟨b0_10009, aw0_0_10010, pw0_0_10011, nw0_0_10012, cw0_0_10013, Fw0_0_10014, rfl, h10015, hf10015_0⟩
                   try dsimp only at hf10015_0
                   obtain rfl := hf10015_0.hl
                   refine ⟨_, rfl, .inr ⟨rfl, ?_⟩⟩
                   refine Plan.idxArrO (j := 0) (o' := 2) FAesExact.arr48 rfl rfl rfl (by omega) rfl ?_
                   refine Plan.storeC h10015 43 rfl rfl rfl rfl rfl FAesExact.sz47 rfl fun w10016 h10016 => ?_
                   simp only [zca, zna, zsz, zss] at h10016
                   refine Plan.nil (k10001 _ _ ?_); clear k10001
                   refine W.seq_k fun _ k10017 => W.regionT [(0, true), (1, true), (2, true), (3, true), (4, true), (5, true), (6, true)] (by kernel_rfl) ?_
                   refine Plan.move_int rfl rfl ?_
                   by_cases hc10018 : x_9975 = 0
                   ·
                    replace hR := ifT hR hc10018
                    refine Plan.cmpV (a := (((x_9975 : Nat) : Int) : Int)) (b := (0 : Int)) (p := x_9975 = 0) (v := true) rfl rfl rfl rfl icmp_eqN (decide_eq_true hc10018) <| Plan.move_bool rfl rfl <| Plan.move_ptr rfl rfl <| Plan.neNil (b := true) FAesExact.ptr30 rfl rfl rfl rfl <| Plan.pickTb rfl rfl rfl <| Plan.assign_bool rfl rfl <| Plan.nil (k10017 _ _ ?_); clear k10017
                    refine W.ret (finR_ret ?_)
                    have h10019 := St.pickT (C := [_, _, _, _, _, _, _, _, _, _, _, _, _, _, _, _, _, _, _, _, _, _, _, _, _, _, _, _, _, _, _, _, _, _, _, _, _, _, _, _, _, _, _, _, _, _, _]) h10016 [4, 5, 6, 7, 27, 28, 29, 30, 1, 0, 2, 3, 35, 36, 37, 38, 15, 16, 17, 18, 19, 20, 21, 22, 39, 40, 41, 42, 43, 44, 45, 46] (by decide)
                    simp only [pick, zfc, zfn, zgz, zgs, zca, zna] at h10019
                    refine RetOk.mk (.tmp_bool rfl .nil) ?_
                    exact ⟨true, x_9971, x_9972, x_9973, x_9974, m7591, m7592, m7593, m7594, x_10004, x_10005, x_10006, m7600, m7601, m7602, hR, b0_9989, b7590, b0_10009, x_10004.length, aw0_0_10010, pw0_0_10011, cw0_0_10013, Fw0_0_10014, b7599, m7600.length, am7600, pm7600, cm7600, Fm7600, rfl, h10019, hf10015_0, hm7600⟩
                   ·
                    replace hR := ifF hR hc10018
                    refine Plan.cmpV (a := (((x_9975 : Nat) : Int) : Int)) (b := (0 : Int)) (p := x_9975 = 0) (v := false) rfl rfl rfl rfl icmp_eqN (decide_eq_false hc10018) <| Plan.move_bool rfl rfl <| Plan.passed rfl <| Plan.passed rfl <| Plan.pickFb rfl rfl rfl <| Plan.assign_bool rfl rfl <| Plan.nil (k10017 _ _ ?_); clear k10017
                    refine W.ret (finR_ret ?_)
                    have h10020 := St.pickT (C := [_, _, _, _, _, _, _, _, _, _, _, _, _, _, _, _, _, _, _, _, _, _, _, _, _, _, _, _, _, _, _, _, _, _, _, _, _, _, _, _, _, _, _, _, _, _, _]) h10016 [4, 5, 6, 7, 27, 28, 29, 30, 1, 0, 2, 3, 35, 36, 37, 38, 15, 16, 17, 18, 19, 20, 21, 22, 39, 40, 41, 42, 43, 44, 45, 46] (by decide)
                    simp only [pick, zfc, zfn, zgz, zgs, zca, zna] at h10020
                    refine RetOk.mk (.tmp_bool rfl .nil) ?_
                    exact ⟨false, x_9971, x_9972, x_9973, x_9974, m7591, m7592, m7593, m7594, x_10004, x_10005, x_10006, m7600, m7601, m7602, hR, b0_9989, b7590, b0_10009, x_10004.length, aw0_0_10010, pw0_0_10011, cw0_0_10013, Fw0_0_10014, b7599, m7600.length, am7600, pm7600, cm7600, Fm7600, rfl, h10020, hf10015_0, hm7600⟩
                 ·
                  replace hR := ifF hR hc9999
                  obtain ⟨hc10021, hR⟩ := hR
                  subst hc10021
                  refine W.regionT [(0, true), (1, true), (2, true), (3, true), (4, true), (5, true), (6, false)] (by kernel_rfl) ?_
                  refine Plan.move_ptr rfl rfl <| Plan.move_int rfl rfl <| Plan.move_ptr rfl rfl <| Plan.nilCheck rfl rfl <| Plan.fieldAddr0 FAesExact.fld53_0 rfl rfl <| Plan.idxArrO (j := 1) (o' := 1) FAesExact.arr46 rfl rfl rfl (by omega) rfl ?_
                  refine Plan.storeC h9990 38 rfl rfl rfl rfl rfl FAesExact.sz30 rfl fun w10022 h10022 => ?_
                  simp only [zca, zna, zsz, zss] at h10022
                  refine Plan.nil (k9998 _ _ ?_); clear k9998
                  refine W.seq_k fun _ k10023 => ?_
                  refine W.regionD FAesExact.mixed [(0, true), (1, true), (2, true), (3, true), (5, true), (6, true), (4, false), (7, true), (8, false)] (by kernel_rfl) ?_
                  have h10024 := h10022.drew
                  refine Plan.move_ptr rfl rfl <| Plan.move_int rfl rfl <| Plan.fieldAddr 21 FAesExact.fld56_6 rfl rfl <| Plan.load0 h10024 10 rfl rfl rfl (by omega) FAesExact.sc28 <| Plan.nilCheck rfl rfl <| Plan.fieldAddr 2 FAesExact.fld53_1 rfl rfl ?_
                  rcases hR with ⟨hr10025, hR⟩ | ⟨x_10026, x_10027, x_10028, hr10025, hR⟩
                  ·
                   refine Plan.call (vs := [.slice ((b7644).1) (((script1.getD i_7584 ((0 : Int), (0 : Int), 0#8, 0#8, 0#64, (fun _ => 0#8), ([] : List Byte))).2.2.2.2.2.2).length) ((b7644).2)]) rfl FAesExact.call38 rfl (letheref04_New_ok (hv7644_6.app [_, _, _, _, _, _, _, _, _, _, _, _, _, _, _, _, _, _, _, _, _, _, _, _, _, _, _, _, _, _, _, _, _, _, _, _, _, _, _, _, _, _, _]) hr10025 h10024) ?_
                   rintro _ w10029 ⟨rfl, h10029⟩
                   refine ⟨_, rfl, .inr ⟨rfl, ?_⟩⟩
                   refine Plan.idxArrO (j := 1) (o' := 3) FAesExact.arr48 rfl rfl rfl (by omega) rfl ?_
                   exact hR.elim
                  ·
                   refine Plan.call (vs := [.slice ((b7644).1) (((script1.getD i_7584 ((0 : Int), (0 : Int), 0#8, 0#8, 0#64, (fun _ => 0#8), ([] : List Byte))).2.2.2.2.2.2).length) ((b7644).2)]) rfl FAesExact.call38 rfl (letheref04_New_ok (hv7644_6.app [_, _, _, _, _, _, _, _, _, _, _, _, _, _, _, _, _, _, _, _, _, _, _, _, _, _, _, _, _, _, _, _, _, _, _, _, _, _, _, _, _, _, _]) hr10025 h10024) ?_
                   rintro _ w10037 ⟨b0_10031, aw0_0_10032, pw0_0_10033, nw0_0_10034, cw0_0_10035, Fw0_0_10036, rfl, h10037, hf10037_0⟩
                   try dsimp only at hf10037_0
                   obtain rfl := hf10037_0.hl
                   refine ⟨_, rfl, .inr ⟨rfl, ?_⟩⟩
                   refine Plan.idxArrO (j := 1) (o' := 3) FAesExact.arr48 rfl rfl rfl (by omega) rfl ?_
                   refine Plan.storeC h10037 44 rfl rfl rfl rfl rfl FAesExact.sz47 rfl fun w10038 h10038 => ?_
                   simp only [zca, zna, zsz, zss] at h10038
                   refine Plan.nil (k10023 _ _ ?_); clear k10023
                   refine W.seq_k fun _ k10039 => W.regionT [(0, true), (1, true), (2, true), (3, true), (4, true), (5, true), (6, true)] (by kernel_rfl) ?_
                   refine Plan.move_int rfl rfl ?_
                   by_cases hc10040 : x_9975 = 0
                   ·
                    replace hR := ifT hR hc10040
                    refine Plan.cmpV (a := (((x_9975 : Nat) : Int) : Int)) (b := (0 : Int)) (p := x_9975 = 0) (v := true) rfl rfl rfl rfl icmp_eqN (decide_eq_true hc10040) <| Plan.move_bool rfl rfl <| Plan.move_ptr rfl rfl <| Plan.neNil (b := true) FAesExact.ptr30 rfl rfl rfl rfl <| Plan.pickTb rfl rfl rfl <| Plan.assign_bool rfl rfl <| Plan.nil (k10039 _ _ ?_); clear k10039
                    refine W.ret (finR_ret ?_)
                    have h10041 := St.pickT (C := [_, _, _, _, _, _, _, _, _, _, _, _, _, _, _, _, _, _, _, _, _, _, _, _, _, _, _, _, _, _, _, _, _, _, _, _, _, _, _, _, _, _, _, _, _, _, _]) h10038 [23, 24, 25, 26, 4, 5, 6, 7, 31, 32, 33, 34, 1, 0, 2, 3, 15, 16, 17, 18, 19, 20, 21, 22, 39, 40, 41, 42, 43, 44, 45, 46] (by decide)
                    simp only [pick, zfc, zfn, zgz, zgs, zca, zna] at h10041
                    refine RetOk.mk (.tmp_bool rfl .nil) ?_
                    exact ⟨true, m7586, m7587, m7588, m7589, x_9971, x_9972, x_9973, x_9974, m7596, m7597, m7598, x_10026, x_10027, x_10028, hR, b7585, b0_9989, b7595, m7596.length, am7596, pm7596, cm7596, Fm7596, b0_10031, x_10026.length, aw0_0_10032, pw0_0_10033, cw0_0_10035, Fw0_0_10036, rfl, h10041, hm7596, hf10037_0⟩
                   ·
                    replace hR := ifF hR hc10040
                    refine Plan.cmpV (a := (((x_9975 : Nat) : Int) : Int)) (b := (0 : Int)) (p := x_9975 = 0) (v := false) rfl rfl rfl rfl icmp_eqN (decide_eq_false hc10040) <| Plan.move_bool rfl rfl <| Plan.passed rfl <| Plan.passed rfl <| Plan.pickFb rfl rfl rfl <| Plan.assign_bool rfl rfl <| Plan.nil (k10039 _ _ ?_); clear k10039
                    refine W.ret (finR_ret ?_)
                    have h10042 := St.pickT (C := [_, _, _, _, _, _, _, _, _, _, _, _, _, _, _, _, _, _, _, _, _, _, _, _, _, _, _, _, _, _, _, _, _, _, _, _, _, _, _, _, _, _, _, _, _, _, _]) h10038 [23, 24, 25, 26, 4, 5, 6, 7, 31, 32, 33, 34, 1, 0, 2, 3, 15, 16, 17, 18, 19, 20, 21, 22, 39, 40, 41, 42, 43, 44, 45, 46] (by decide)
                    simp only [pick, zfc, zfn, zgz, zgs, zca, zna] at h10042
                    refine RetOk.mk (.tmp_bool rfl .nil) ?_
                    exact ⟨false, m7586, m7587, m7588, m7589, x_9971, x_9972, x_9973, x_9974, m7596, m7597, m7598, x_10026, x_10027, x_10028, hR, b7585, b0_9989, b7595, m7596.length, am7596, pm7596, cm7596, Fm7596, b0_10031, x_10026.length, aw0_0_10032, pw0_0_10033, cw0_0_10035, Fw0_0_10036, rfl, h10042, hm7596, hf10037_0⟩
              ·
               rintro _ w10043 ⟨y_t9945, y_m9947, y_m9948, y_m9949, y_m9950, y_m9952, y_m9953, y_m9954, y_m9955, y_m9957, y_m9958, y_m9959, y_m9961, y_m9962, y_m9963, ⟨hy10043_0, hy10043_1, hy10043_2, hy10043_3, hy10043_4, hy10043_5, hy10043_6, hy10043_7, hy10043_8, hy10043_9, hy10043_10, hy10043_11, hy10043_12, hy10043_13, hy10043_14⟩, b9946, b9951, b9956, n_m9957, am9957, pm9957, cm9957, Fm9957, b9960, n_m9961, am9961, pm9961, cm9961, Fm9961, rfl, h10043, hm9957, hm9961⟩
               subst hy10043_0
               subst hy10043_1
               subst hy10043_2
               subst hy10043_3
               subst hy10043_4
               subst hy10043_5
               subst hy10043_6
               subst hy10043_7
               subst hy10043_8
               subst hy10043_9
               subst hy10043_10
               subst hy10043_11
               subst hy10043_12
               subst hy10043_13
               subst hy10043_14
               obtain rfl : List.length (α := (Nat → BitVec 8)) m9957 = n_m9957 := hm9957.hl
               obtain rfl : List.length (α := (Nat → BitVec 8)) m9961 = n_m9961 := hm9961.hl
               replace hR := hR09944
               refine ⟨_, rfl, .inr ⟨rfl, ?_⟩⟩
               by_cases hc10044 : t9945 = true
               ·
                replace hR := ifT hR hc10044
                obtain rfl : t9945 = true := hc10044
                refine Plan.move_bool rfl rfl <| Plan.move_slice rfl rfl <| Plan.fieldAddr 21 FAesExact.fld56_6 rfl rfl <| Plan.load0 h10043 23 rfl rfl rfl (by omega) FAesExact.sc28 ?_
                obtain ⟨x_10046, hr10045, hR⟩ := hR
                refine Plan.call (vs := [.slice ay0_8985 x_8984.length cy0_8988, .slice ((b7644).1) (((script1.getD i_7584 ((0 : Int), (0 : Int), 0#8, 0#8, 0#64, (fun _ => 0#8), ([] : List Byte))).2.2.2.2.2.2).length) ((b7644).2)]) rfl FAesExact.call33 rfl (lethelaw04_Kept_ok (by exact (hf8990_0.bx 16 rfl)) (hv7644_6.app [_, _, _, _, _, _, _, _, _, _, _, _, _, _, _, _, _, _, _, _, _, _, _, _, _, _, _, _, _, _, _, _]) hr10045 h10043) ?_
                rintro _ w10047 ⟨rfl, h10047⟩
                refine ⟨_, rfl, .inr ⟨rfl, ?_⟩⟩
                refine Plan.pickTb rfl rfl rfl <| Plan.assign_bool rfl rfl <| Plan.nil ?_
                have h10048 := St.pickT (C := [_, _, _, _, _, _, _, _, _, _, _, _, _, _, _, _, _, _, _, _, _, _, _, _, _, _, _, _, _, _, _, _]) h10047 [16, 0, 1, 2, 3, 4, 5, 6, 7, 8, 9, 10, 11, 12, 13, 14, 15, 24, 25, 26, 27, 28, 29, 30, 31] (by decide)
                simp only [pick, zfc, zfn, zgz, zgs, zca, zna] at h10048
                exact ⟨x_8984, x_10046, m9947, m9948, m9949, m9950, m9952, m9953, m9954, m9955, m9957, m9958, m9959, m9961, m9962, m9963, hR, ay0_8985, py0_8986, cy0_8988, Fy0_8989, b9946, b9951, b9956, m9957.length, am9957, pm9957, cm9957, Fm9957, b9960, m9961.length, am9961, pm9961, cm9961, Fm9961, (zer (zer zen)), h10048, hf8990_0, hm9957, hm9961⟩
               ·
                replace hR := ifF hR hc10044
                obtain rfl : t9945 = false := Bool.eq_false_iff.2 hc10044
                refine Plan.move_bool rfl rfl <| Plan.passed rfl <| Plan.passed rfl <| Plan.passed rfl <| Plan.passed rfl <| Plan.pickFb rfl rfl rfl <| Plan.assign_bool rfl rfl <| Plan.nil ?_
                have h10049 := St.pickT (C := [_, _, _, _, _, _, _, _, _, _, _, _, _, _, _, _, _, _, _, _, _, _, _, _, _, _, _, _, _, _, _, _]) h10043 [16, 0, 1, 2, 3, 4, 5, 6, 7, 8, 9, 10, 11, 12, 13, 14, 15, 24, 25, 26, 27, 28, 29, 30, 31] (by decide)
                simp only [pick, zfc, zfn, zgz, zgs, zca, zna] at h10049
                exact ⟨x_8984, false, m9947, m9948, m9949, m9950, m9952, m9953, m9954, m9955, m9957, m9958, m9959, m9961, m9962, m9963, hR, ay0_8985, py0_8986, cy0_8988, Fy0_8989, b9946, b9951, b9956, m9957.length, am9957, pm9957, cm9957, Fm9957, b9960, m9961.length, am9961, pm9961, cm9961, Fm9961, (zer (zer zen)), h10049, hf8990_0, hm9957, hm9961⟩
             ·
              rintro ev10050 wl10050 ⟨y_x_9852, y_ok9853, y_m9855, y_m9856, y_m9857, y_m9858, y_m9860, y_m9861, y_m9862, y_m9863, y_m9865, y_m9866, y_m9867, y_m9869, y_m9870, y_m9871, ⟨hy10050_0, hy10050_1, hy10050_2, hy10050_3, hy10050_4, hy10050_5, hy10050_6, hy10050_7, hy10050_8, hy10050_9, hy10050_10, hy10050_11, hy10050_12, hy10050_13, hy10050_14, hy10050_15⟩, ax_9852, px_9852, cx_9852, Fx_9852, b9854, b9859, b9864, n_m9865, am9865, pm9865, cm9865, Fm9865, b9868, n_m9869, am9869, pm9869, cm9869, Fm9869, he10050, h10050, hx_9852, hm9865, hm9869⟩
              subst hy10050_0
              subst hy10050_1
              subst hy10050_2
              subst hy10050_3
              subst hy10050_4
              subst hy10050_5
              subst hy10050_6
              subst hy10050_7
              subst hy10050_8
              subst hy10050_9
              subst hy10050_10
              subst hy10050_11
              subst hy10050_12
              subst hy10050_13
              subst hy10050_14
              subst hy10050_15
              obtain rfl : List.length (α := (Nat → BitVec 8)) m9865 = n_m9865 := hm9865.hl
              obtain rfl : List.length (α := (Nat → BitVec 8)) m9869 = n_m9869 := hm9869.hl
              obtain ⟨ev10050, rfl⟩ := he10050.open
              replace hR := hR09872
              refine k9676 _ _ ?_; clear k9676
              refine W.seq_k fun _ k10051 => W.seq_k fun _ k10052 => ?_
              refine W.regionT [(0, true)] (by kernel_rfl) ?_
              refine Plan.assign_int rfl rfl <| Plan.nil (k10052 _ _ ?_); clear k10052
              obtain ⟨hI10071, hR010071⟩ := hR
              refine W.cutN (fun e w => True ∧ EnvHas e [(8, .bool ok9853)] ∧ St B w0 (⟨some b9854, 0, 240, fun q => VU .u8 (m9855 q), true⟩ :: ⟨some b9854, 240, 256, fun q => VU .u8 (m9856 q), true⟩ :: ⟨some b9854, 496, 256, fun q => VU .u8 (m9857 q), true⟩ :: ⟨some b9854, 752, 256, fun q => VU .u8 (m9858 q), true⟩ :: ⟨some b9859, 0, 240, fun q => VU .u8 (m9860 q), true⟩ :: ⟨some b9859, 240, 256, fun q => VU .u8 (m9861 q), true⟩ :: ⟨some b9859, 496, 256, fun q => VU .u8 (m9862 q), true⟩ :: ⟨some b9859, 752, 256, fun q => VU .u8 (m9863 q), true⟩ :: ⟨pm9865, 0, cm9865 * 4, Fm9865, true⟩ :: ⟨some b9864, 0, 1, fun _ => .slice am9865 m9865.length cm9865, true⟩ :: ⟨some b9864, 1, 256, fun q => VU .u8 (m9866 q), true⟩ :: ⟨some b9864, 257, 256, fun q => VU .u8 (m9867 q), true⟩ :: ⟨pm9869, 0, cm9869 * 4, Fm9869, true⟩ :: ⟨some b9868, 0, 1, fun _ => .slice am9869 m9869.length cm9869, true⟩ :: ⟨some b9868, 1, 256, fun q => VU .u8 (m9870 q), true⟩ :: ⟨some b9868, 257, 256, fun q => VU .u8 (m9871 q), true⟩ :: ⟨pm7603, 0, cm7603 * 1, Fm7603, true⟩ :: ⟨pm7605, 0, cm7605 * 1, Fm7605, true⟩ :: ⟨some b4, 0, 1, fun _ => .pointer (some ⟨b9854, 0, none⟩), true⟩ :: ⟨some b4, 1, 1, fun _ => .pointer (some ⟨b9859, 0, none⟩), true⟩ :: ⟨some b4, 2, 1, fun _ => .pointer (some ⟨b9864, 0, none⟩), true⟩ :: ⟨some b4, 3, 1, fun _ => .pointer (some ⟨b9868, 0, none⟩), true⟩ :: ⟨some b4, 4, 1, fun _ => .slice am7603 m7603.length cm7603, true⟩ :: ⟨some b4, 5, 1, fun _ => .slice am7605 m7605.length cm7605, true⟩ :: L) w) ?_ ?_
              ·
               refine W.block ?_
               refine W.iter hI10071 (fun (s10071 : ((List Byte) × Nat)) e w => ∃ ax_10069 : Option Addr, ∃ px_10069 : Option Nat, ∃ cx_10069 : Nat, ∃ Fx_10069 : Nat → Byte, EnvHas e [(6, .slice ax_10069 x_8984.length cx_10069), (8, .bool ok9853), (9, VN s10071.2)] ∧ St B w0 (⟨px_10069, 0, cx_10069, fun q => VU .u8 (Fx_10069 q), true⟩ :: ⟨some b9854, 0, 240, fun q => VU .u8 (m9855 q), true⟩ :: ⟨some b9854, 240, 256, fun q => VU .u8 (m9856 q), true⟩ :: ⟨some b9854, 496, 256, fun q => VU .u8 (m9857 q), true⟩ :: ⟨some b9854, 752, 256, fun q => VU .u8 (m9858 q), true⟩ :: ⟨some b9859, 0, 240, fun q => VU .u8 (m9860 q), true⟩ :: ⟨some b9859, 240, 256, fun q => VU .u8 (m9861 q), true⟩ :: ⟨some b9859, 496, 256, fun q => VU .u8 (m9862 q), true⟩ :: ⟨some b9859, 752, 256, fun q => VU .u8 (m9863 q), true⟩ :: ⟨pm9865, 0, cm9865 * 4, Fm9865, true⟩ :: ⟨some b9864, 0, 1, fun _ => .slice am9865 m9865.length cm9865, true⟩ :: ⟨some b9864, 1, 256, fun q => VU .u8 (m9866 q), true⟩ :: ⟨some b9864, 257, 256, fun q => VU .u8 (m9867 q), true⟩ :: ⟨pm9869, 0, cm9869 * 4, Fm9869, true⟩ :: ⟨some b9868, 0, 1, fun _ => .slice am9869 m9869.length cm9869, true⟩ :: ⟨some b9868, 1, 256, fun q => VU .u8 (m9870 q), true⟩ :: ⟨some b9868, 257, 256, fun q => VU .u8 (m9871 q), true⟩ :: ⟨pm7603, 0, cm7603 * 1, Fm7603, true⟩ :: ⟨pm7605, 0, cm7605 * 1, Fm7605, true⟩ :: ⟨some b4, 0, 1, fun _ => .pointer (some ⟨b9854, 0, none⟩), true⟩ :: ⟨some b4, 1, 1, fun _ => .pointer (some ⟨b9859, 0, none⟩), true⟩ :: ⟨some b4, 2, 1, fun _ => .pointer (some ⟨b9864, 0, none⟩), true⟩ :: ⟨some b4, 3, 1, fun _ => .pointer (some ⟨b9868, 0, none⟩), true⟩ :: ⟨some b4, 4, 1, fun _ => .slice am7603 m7603.length cm7603, true⟩ :: ⟨some b4, 5, 1, fun _ => .slice am7605 m7605.length cm7605, true⟩ :: L) w ∧ Ow ax_10069 px_10069 x_8984.length cx_10069 Fx_10069 s10071.1) ⟨ax_9852, px_9852, cx_9852, Fx_9852, (zer (zer (zer zen))), h10050, hx_9852⟩ ?_
               rintro ⟨x_10069, i_10070⟩ o10071 hR hx10071 ev10072 wl10072 ⟨ax_10069, px_10069, cx_10069, Fx_10069, he10072, h10072, hx_10069⟩
               obtain ⟨ev10072, rfl⟩ := he10072.open
               unfold lethelaw04_AesExact_l3 at hR
               refine W.seq_k fun _ k10073 => W.seq_k fun _ k10074 => ?_
               refine W.regionT [(0, true), (1, true), (2, true), (3, true)] (by kernel_rfl) ?_
               refine Plan.move_int rfl rfl <| Plan.move_slice rfl rfl <| Plan.len FAesExact.isl28 rfl rfl <| Plan.cmpP (a := (((i_10070 : Nat) : Int) : Int)) (b := (((x_8984.length : Nat) : Int) : Int)) (p := i_10070 < x_8984.length) rfl rfl rfl rfl icmp_ltN <| Plan.nil (k10074 _ _ ?_); clear k10074
               by_cases hc10075 : i_10070 < x_8984.length
               ·
                replace hR := ifT hR hc10075
                refine W.condT (congrArg Value.bool (decide_eq_true hc10075)) ?_
                refine W.skip ?_
                refine k10073 _ _ ?_; clear k10073
                refine W.seq_k fun _ k10076 => ?_
                refine W.block ?_
                refine W.regionT [(0, true), (1, true), (2, true), (3, false)] (by kernel_rfl) ?_
                refine Plan.move_slice rfl rfl <| Plan.move_int rfl rfl ?_
                obtain ⟨hc10077, hR⟩ := hR
                refine Plan.idxVS (j := i_10070) h10072 (hx_10069.bx 0 rfl) FAesExact.sl28 rfl rfl rfl hc10077 ?_
                refine Plan.storeO (j := i_10070) (Y := 85#8) h10072 0 hx_10069 rfl rfl rfl rfl hc10077 FAesExact.sz5 rfl fun w10078 F10078 ho10078 h10078 => ?_
                simp only [zca, zna, zsz, zss] at h10078
                have e10078 : (x_10069.set i_10070 (85#8)).length = x_10069.length := List.length_set
                refine Plan.nil ?_
                refine blockR_norm ?_
                refine k10076 _ _ ?_; clear k10076
                refine W.regionT [(0, true), (1, true), (2, true)] (by kernel_rfl) ?_
                refine Plan.move_int rfl rfl ?_
                obtain ⟨hc10079, hR⟩ := hR
                refine Plan.addN (a := i_10070) (b := 1) rfl rfl rfl (by omega) <| Plan.assign_int rfl rfl <| Plan.nil ?_
                exact iterR_norm ⟨_, hR, ax_10069, px_10069, cx_10069, F10078, (zer (zer (zer zen))), h10078, (show Ow _ _ x_8984.length _ _ _ from ho10078)⟩
               ·
                replace hR := ifF hR hc10075
                refine W.condF (congrArg Value.bool (decide_eq_false hc10075)) ?_
                refine W.exit (thenR_exit (iterR_exit (blockR_here ?_)))
                have h10080 := St.pickT (C := [_, _, _, _, _, _, _, _, _, _, _, _, _, _, _, _, _, _, _, _, _, _, _, _, _]) h10072 [1, 2, 3, 4, 5, 6, 7, 8, 9, 10, 11, 12, 13, 14, 15, 16, 17, 18, 19, 20, 21, 22, 23, 24] (by decide)
                simp only [pick, zfc, zfn, zgz, zgs, zca, zna] at h10080
                exact ⟨trivial, (zer zen), h10080⟩
              ·
               rintro ev10081 wl10081 ⟨hy10081, he10081, h10081⟩
               obtain ⟨ev10081, rfl⟩ := he10081.open
               replace hR := hR010071
               refine k10051 _ _ ?_; clear k10051
               refine W.seq_k fun _ k10082 => W.regionT [(0, true), (1, true)] (by kernel_rfl) ?_
               refine Plan.move_bool rfl rfl <| Plan.assign_bool rfl rfl <| Plan.nil (k10082 _ _ ?_); clear k10082
               refine W.ret (blockR_ret (thenR_ret (thenR_ret (finR_ret ?_))))
               replace hR := hR.2
               obtain ⟨CF10083, hx10083, hy10083⟩ := hFj8956
               refine RetOk.mk (.tmp_bool rfl .nil) ?_
               exact ⟨ok9853, m9855, m9856, m9857, m9858, m9860, m9861, m9862, m9863, m9865, m9866, m9867, m9869, m9870, m9871, m7603, m7605, hR, CF10083, L, hx10083, L, rfl, b9854, b9859, b9864, m9865.length, am9865, pm9865, cm9865, Fm9865, b9868, m9869.length, am9869, pm9869, cm9869, Fm9869, m7603.length, am7603, pm7603, cm7603, Fm7603, m7605.length, am7605, pm7605, cm7605, Fm7605, rfl, h10081, hm9865, hm9869, hm7603, hm7605⟩
            ·
             replace hR := ifF hR hc9675
             refine W.condF (congrArg Value.bool (decide_eq_false hc9675)) ?_
             refine W.seq_k fun _ k10084 => W.regionT [(0, true), (1, true)] (by kernel_rfl) ?_
             refine Plan.cmpP (a := ((script1.getD i_7584 ((0 : Int), (0 : Int), 0#8, 0#8, 0#64, (fun _ => 0#8), ([] : List Byte))).1 : Int)) (b := (4 : Int)) (p := (script1.getD i_7584 ((0 : Int), (0 : Int), 0#8, 0#8, 0#64, (fun _ => 0#8), ([] : List Byte))).1 = 4) rfl rfl rfl rfl icmp_eq ?_
             refine Plan.assign_bool rfl rfl <| Plan.nil (k10084 _ _ ?_); clear k10084
             by_cases hc10085 : (script1.getD i_7584 ((0 : Int), (0 : Int), 0#8, 0#8, 0#64, (fun _ => 0#8), ([] : List Byte))).1 = 4
             ·
              replace hR := ifT hR hc10085
              refine W.condT (congrArg Value.bool (decide_eq_true hc10085)) ?_
              by_cases hc10086 : kz8981 = 0
              ·
               replace hR := ifT hR hc10086
               subst hc10086
               refine W.regionD FAesExact.mixed [(0, true), (1, true), (2, true), (3, true), (4, true), (5, true), (6, true), (7, true), (9, true), (10, true), (11, true), (12, true), (13, true), (14, true), (15, true), (16, true), (8, false), (17, false), (18, true), (19, true)] (by kernel_rfl) ?_
               have h10087 := h8990.drew
               refine Plan.move_ptr rfl rfl <| Plan.move_int rfl rfl <| Plan.nilCheck rfl rfl <| Plan.fieldAddr0 FAesExact.fld53_0 rfl rfl <| Plan.idxArrO (j := 0) (o' := 0) FAesExact.arr46 rfl rfl rfl (by omega) rfl <| Plan.load0 h10087 26 rfl rfl rfl (by omega) FAesExact.sc30 <| Plan.fieldAddr 5 FAesExact.fld56_5 rfl rfl <| Plan.loadA1 h10087 6 rfl rfl rfl FAesExact.agg27 ?_
               refine Plan.move_ptr rfl rfl <| Plan.move_int rfl rfl <| Plan.nilCheck rfl rfl <| Plan.fieldAddr 2 FAesExact.fld53_1 rfl rfl <| Plan.idxArrO (j := 0) (o' := 2) FAesExact.arr48 rfl rfl rfl (by omega) rfl <| Plan.load0 h10087 28 rfl rfl rfl (by omega) FAesExact.sc47 <| Plan.fieldAddr 5 FAesExact.fld56_5 rfl rfl <| Plan.loadA1 h10087 6 rfl rfl rfl FAesExact.agg27 ?_
               have h10088 := St.pickT (C := [_, _, _, _, _, _, _, _, _, _, _, _, _, _, _, _, _, _, _, _, _, _, _, _, _, _, _, _, _, _, _, _]) h10087 [8, 9, 10, 11, 0, 1, 2, 3, 4, 5, 6, 7, 12, 13, 14, 15, 16, 17, 18, 19, 20, 21, 22, 23, 24, 25, 26, 27, 28, 29, 30, 31] (by decide)
               simp only [pick, zfc, zfn, zgz, zgs, zca, zna] at h10088
               obtain ⟨x_10090, hr10089, hR⟩ := hR
               refine Plan.call (vs := [.pointer (some ⟨b7585, 0, none⟩), AG [(16, fun q => VU .u8 (((script1.getD i_7584 ((0 : Int), (0 : Int), 0#8, 0#8, 0#64, (fun _ => 0#8), ([] : List Byte))).2.2.2.2.2.1) q))]]) rfl FAesExact.call15 rfl (aes_Cipher_Encrypt_ok  hr10089 h10088) ?_
               rintro _ w10091 ⟨rfl, h10091⟩
               refine ⟨_, rfl, .inl ⟨PIn.keep (PIn.cons 10 rfl (PIn.cons 28 rfl (PIn.cons 10 rfl (PIn.cons 26 rfl PIn.nil)))) h10091, ?_⟩⟩
               have h10092 := St.pickT (C := [_, _, _, _, _, _, _, _, _, _, _, _, _, _, _, _, _, _, _, _, _, _, _, _, _, _, _, _, _, _, _, _]) h10091 [17, 18, 19, 0, 1, 2, 3, 4, 5, 6, 7, 8, 9, 10, 11, 12, 13, 14, 15, 16, 20, 21, 22, 23, 24, 25, 26, 27, 28, 29, 30, 31] (by decide)
               simp only [pick, zfc, zfn, zgz, zgs, zca, zna] at h10092
               obtain ⟨x_10094, hr10093, hR⟩ := hR
               refine Plan.call (vs := [.pointer (some ⟨b7595, 0, none⟩), AG [(16, fun q => VU .u8 (((script1.getD i_7584 ((0 : Int), (0 : Int), 0#8, 0#8, 0#64, (fun _ => 0#8), ([] : List Byte))).2.2.2.2.2.1) q))]]) rfl FAesExact.call34 rfl (letheref04_Cipher_Encrypt_ok (by exact (LO.lvf D76_flat hm7596 16 rfl)) hr10093 h10092) ?_
               rintro _ w10095 ⟨rfl, h10095⟩
               refine ⟨_, rfl, .inl ⟨PIn.keep (PIn.cons 13 rfl (PIn.cons 28 rfl (PIn.cons 13 rfl (PIn.cons 26 rfl PIn.nil)))) h10095, ?_⟩⟩
               refine Plan.eqArrV (b := (eqB 16 x_10090 x_10094)) FAesExact.arrI27 rfl rfl rfl rfl <| Plan.assign_bool rfl rfl <| Plan.nil ?_
               refine blockR_norm ?_
               have h10096 := St.pickT (C := [_, _, _, _, _, _, _, _, _, _, _, _, _, _, _, _, _, _, _, _, _, _, _, _, _, _, _, _, _, _, _, _]) h10095 [7, 19, 0, 1, 2, 20, 21, 22, 23, 24, 25, 8, 9, 10, 11, 12, 13, 14, 3, 4, 5, 6, 15, 16, 17, 18, 26, 27, 28, 29, 30, 31] (by decide)
               simp only [pick, zfc, zfn, zgz, zgs, zca, zna] at h10096
               obtain ⟨CF10097, hx10097, hy10097⟩ := hFj9632
               exact ⟨x_8984, (eqB 16 x_10090 x_10094), m7596, m7597, m7598, m7600, m7601, m7602, m7603, m7605, m7586, m7591, hR, CF10097, L, hx10097, L, rfl, ay0_8985, py0_8986, cy0_8988, Fy0_8989, b7595, m7596.length, am7596, pm7596, cm7596, Fm7596, b7599, m7600.length, am7600, pm7600, cm7600, Fm7600, m7603.length, am7603, pm7603, cm7603, Fm7603, m7605.length, am7605, pm7605, cm7605, Fm7605, (zer (zer (zer zen))), h10096, hf8990_0, hm7596, hm7600, hm7603, hm7605⟩
              ·
               replace hR := ifF hR hc10086
               obtain ⟨hc10098, hR⟩ := hR
               subst hc10098
               refine W.regionD FAesExact.mixed [(0, true), (1, true), (2, true), (3, true), (4, true), (5, true), (6, true), (7, true), (9, true), (10, true), (11, true), (12, true), (13, true), (14, true), (15, true), (16, true), (8, false), (17, false), (18, true), (19, true)] (by kernel_rfl) ?_
               have h10099 := h8990.drew
               refine Plan.move_ptr rfl rfl <| Plan.move_int rfl rfl <| Plan.nilCheck rfl rfl <| Plan.fieldAddr0 FAesExact.fld53_0 rfl rfl <| Plan.idxArrO (j := 1) (o' := 1) FAesExact.arr46 rfl rfl rfl (by omega) rfl <| Plan.load0 h10099 27 rfl rfl rfl (by omega) FAesExact.sc30 <| Plan.fieldAddr 5 FAesExact.fld56_5 rfl rfl <| Plan.loadA1 h10099 6 rfl rfl rfl FAesExact.agg27 ?_
               refine Plan.move_ptr rfl rfl <| Plan.move_int rfl rfl <| Plan.nilCheck rfl rfl <| Plan.fieldAddr 2 FAesExact.fld53_1 rfl rfl <| Plan.idxArrO (j := 1) (o' := 3) FAesExact.arr48 rfl rfl rfl (by omega) rfl <| Plan.load0 h10099 29 rfl rfl rfl (by omega) FAesExact.sc47 <| Plan.fieldAddr 5 FAesExact.fld56_5 rfl rfl <| Plan.loadA1 h10099 6 rfl rfl rfl FAesExact.agg27 ?_
               have h10100 := St.pickT (C := [_, _, _, _, _, _, _, _, _, _, _, _, _, _, _, _, _, _, _, _, _, _, _, _, _, _, _, _, _, _, _, _]) h10099 [12, 13, 14, 15, 0, 1, 2, 3, 4, 5, 6, 7, 8, 9, 10, 11, 16, 17, 18, 19, 20, 21, 22, 23, 24, 25, 26, 27, 28, 29, 30, 31] (by decide)
               simp only [pick, zfc, zfn, zgz, zgs, zca, zna] at h10100
               obtain ⟨x_10102, hr10101, hR⟩ := hR
               refine Plan.call (vs := [.pointer (some ⟨b7590, 0, none⟩), AG [(16, fun q => VU .u8 (((script1.getD i_7584 ((0 : Int), (0 : Int), 0#8, 0#8, 0#64, (fun _ => 0#8), ([] : List Byte))).2.2.2.2.2.1) q))]]) rfl FAesExact.call15 rfl (aes_Cipher_Encrypt_ok  hr10101 h10100) ?_
               rintro _ w10103 ⟨rfl, h10103⟩
               refine ⟨_, rfl, .inl ⟨PIn.keep (PIn.cons 10 rfl (PIn.cons 29 rfl (PIn.cons 10 rfl (PIn.cons 27 rfl PIn.nil)))) h10103, ?_⟩⟩
               have h10104 := St.pickT (C := [_, _, _, _, _, _, _, _, _, _, _, _, _, _, _, _, _, _, _, _, _, _, _, _, _, _, _, _, _, _, _, _]) h10103 [21, 22, 23, 0, 1, 2, 3, 4, 5, 6, 7, 8, 9, 10, 11, 12, 13, 14, 15, 16, 17, 18, 19, 20, 24, 25, 26, 27, 28, 29, 30, 31] (by decide)
               simp only [pick, zfc, zfn, zgz, zgs, zca, zna] at h10104
               obtain ⟨x_10106, hr10105, hR⟩ := hR
               refine Plan.call (vs := [.pointer (some ⟨b7599, 0, none⟩), AG [(16, fun q => VU .u8 (((script1.getD i_7584 ((0 : Int), (0 : Int), 0#8, 0#8, 0#64, (fun _ => 0#8), ([] : List Byte))).2.2.2.2.2.1) q))]]) rfl FAesExact.call34 rfl (letheref04_Cipher_Encrypt_ok (by exact (LO.lvf D76_flat hm7600 20 rfl)) hr10105 h10104) ?_
               rintro _ w10107 ⟨rfl, h10107⟩
               refine ⟨_, rfl, .inl ⟨PIn.keep (PIn.cons 13 rfl (PIn.cons 29 rfl (PIn.cons 13 rfl (PIn.cons 27 rfl PIn.nil)))) h10107, ?_⟩⟩
               refine Plan.eqArrV (b := (eqB 16 x_10102 x_10106)) FAesExact.arrI27 rfl rfl rfl rfl <| Plan.assign_bool rfl rfl <| Plan.nil ?_
               refine blockR_norm ?_
               have h10108 := St.pickT (C := [_, _, _, _, _, _, _, _, _, _, _, _, _, _, _, _, _, _, _, _, _, _, _, _, _, _, _, _, _, _, _, _]) h10107 [7, 19, 20, 21, 22, 23, 0, 1, 2, 24, 25, 8, 9, 10, 11, 12, 13, 14, 15, 16, 17, 18, 3, 4, 5, 6, 26, 27, 28, 29, 30, 31] (by decide)
               simp only [pick, zfc, zfn, zgz, zgs, zca, zna] at h10108
               obtain ⟨CF10109, hx10109, hy10109⟩ := hFj9632
               exact ⟨x_8984, (eqB 16 x_10102 x_10106), m7596, m7597, m7598, m7600, m7601, m7602, m7603, m7605, m7586, m7591, hR, CF10109, L, hx10109, L, rfl, ay0_8985, py0_8986, cy0_8988, Fy0_8989, b7595, m7596.length, am7596, pm7596, cm7596, Fm7596, b7599, m7600.length, am7600, pm7600, cm7600, Fm7600, m7603.length, am7603, pm7603, cm7603, Fm7603, m7605.length, am7605, pm7605, cm7605, Fm7605, (zer (zer (zer zen))), h10108, hf8990_0, hm7596, hm7600, hm7603, hm7605⟩
             ·
              replace hR := ifF hR hc10085
              refine W.condF (congrArg Value.bool (decide_eq_false hc10085)) ?_
              refine W.seq_k fun _ k10110 => W.regionT [(0, true), (1, true)] (by kernel_rfl) ?_
              refine Plan.cmpP (a := ((script1.getD i_7584 ((0 : Int), (0 : Int), 0#8, 0#8, 0#64, (fun _ => 0#8), ([] : List Byte))).1 : Int)) (b := (5 : Int)) (p := (script1.getD i_7584 ((0 : Int), (0 : Int), 0#8, 0#8, 0#64, (fun _ => 0#8), ([] : List Byte))).1 = 5) rfl rfl rfl rfl icmp_eq ?_
              refine Plan.assign_bool rfl rfl <| Plan.nil (k10110 _ _ ?_); clear k10110
              by_cases hc10111 : (script1.getD i_7584 ((0 : Int), (0 : Int), 0#8, 0#8, 0#64, (fun _ => 0#8), ([] : List Byte))).1 = 5
              ·
               replace hR := ifT hR hc10111
               refine W.condT (congrArg Value.bool (decide_eq_true hc10111)) ?_
               by_cases hc10112 : kz8981 = 0
               ·
                replace hR := ifT hR hc10112
                subst hc10112
                refine W.regionD FAesExact.mixed [(0, true), (1, true), (2, true), (3, true), (4, true), (5, true), (6, true), (7, true), (9, true), (10, true), (11, true), (12, true), (13, true), (14, true), (15, true), (16, true), (8, false), (17, false), (18, true), (19, true)] (by kernel_rfl) ?_
                have h10113 := h8990.drew
                refine Plan.move_ptr rfl rfl <| Plan.move_int rfl rfl <| Plan.nilCheck rfl rfl <| Plan.fieldAddr0 FAesExact.fld53_0 rfl rfl <| Plan.idxArrO (j := 0) (o' := 0) FAesExact.arr46 rfl rfl rfl (by omega) rfl <| Plan.load0 h10113 26 rfl rfl rfl (by omega) FAesExact.sc30 <| Plan.fieldAddr 5 FAesExact.fld56_5 rfl rfl <| Plan.loadA1 h10113 6 rfl rfl rfl FAesExact.agg27 ?_
                refine Plan.move_ptr rfl rfl <| Plan.move_int rfl rfl <| Plan.nilCheck rfl rfl <| Plan.fieldAddr 2 FAesExact.fld53_1 rfl rfl <| Plan.idxArrO (j := 0) (o' := 2) FAesExact.arr48 rfl rfl rfl (by omega) rfl <| Plan.load0 h10113 28 rfl rfl rfl (by omega) FAesExact.sc47 <| Plan.fieldAddr 5 FAesExact.fld56_5 rfl rfl <| Plan.loadA1 h10113 6 rfl rfl rfl FAesExact.agg27 ?_
                have h10114 := St.pickT (C := [_, _, _, _, _, _, _, _, _, _, _, _, _, _, _, _, _, _, _, _, _, _, _, _, _, _, _, _, _, _, _, _]) h10113 [8, 9, 10, 11, 0, 1, 2, 3, 4, 5, 6, 7, 12, 13, 14, 15, 16, 17, 18, 19, 20, 21, 22, 23, 24, 25, 26, 27, 28, 29, 30, 31] (by decide)
                simp only [pick, zfc, zfn, zgz, zgs, zca, zna] at h10114
                obtain ⟨x_10116, hr10115, hR⟩ := hR
                refine Plan.call (vs := [.pointer (some ⟨b7585, 0, none⟩), AG [(16, fun q => VU .u8 (((script1.getD i_7584 ((0 : Int), (0 : Int), 0#8, 0#8, 0#64, (fun _ => 0#8), ([] : List Byte))).2.2.2.2.2.1) q))]]) rfl FAesExact.call17 rfl (aes_Cipher_Decrypt_ok  hr10115 h10114) ?_
                rintro _ w10117 ⟨rfl, h10117⟩
                refine ⟨_, rfl, .inl ⟨PIn.keep (PIn.cons 10 rfl (PIn.cons 28 rfl (PIn.cons 10 rfl (PIn.cons 26 rfl PIn.nil)))) h10117, ?_⟩⟩
                have h10118 := St.pickT (C := [_, _, _, _, _, _, _, _, _, _, _, _, _, _, _, _, _, _, _, _, _, _, _, _, _, _, _, _, _, _, _, _]) h10117 [17, 18, 19, 0, 1, 2, 3, 4, 5, 6, 7, 8, 9, 10, 11, 12, 13, 14, 15, 16, 20, 21, 22, 23, 24, 25, 26, 27, 28, 29, 30, 31] (by decide)
                simp only [pick, zfc, zfn, zgz, zgs, zca, zna] at h10118
                obtain ⟨x_10120, hr10119, hR⟩ := hR
                refine Plan.call (vs := [.pointer (some ⟨b7595, 0, none⟩), AG [(16, fun q => VU .u8 (((script1.getD i_7584 ((0 : Int), (0 : Int), 0#8, 0#8, 0#64, (fun _ => 0#8), ([] : List Byte))).2.2.2.2.2.1) q))]]) rfl FAesExact.call35 rfl (letheref04_Cipher_Decrypt_ok (by exact (LO.lvf D76_flat hm7596 16 rfl)) hr10119 h10118) ?_
                rintro _ w10121 ⟨rfl, h10121⟩
                refine ⟨_, rfl, .inl ⟨PIn.keep (PIn.cons 13 rfl (PIn.cons 28 rfl (PIn.cons 13 rfl (PIn.cons 26 rfl PIn.nil)))) h10121, ?_⟩⟩
                refine Plan.eqArrV (b := (eqB 16 x_10116 x_10120)) FAesExact.arrI27 rfl rfl rfl rfl <| Plan.assign_bool rfl rfl <| Plan.nil ?_
                refine blockR_norm ?_
                have h10122 := St.pickT (C := [_, _, _, _, _, _, _, _, _, _, _, _, _, _, _, _, _, _, _, _, _, _, _, _, _, _, _, _, _, _, _, _]) h10121 [7, 19, 0, 1, 2, 20, 21, 22, 23, 24, 25, 8, 9, 10, 11, 12, 13, 14, 3, 4, 5, 6, 15, 16, 17, 18, 26, 27, 28, 29, 30, 31] (by decide)
                simp only [pick, zfc, zfn, zgz, zgs, zca, zna] at h10122
                obtain ⟨CF10123, hx10123, hy10123⟩ := hFj9632
                exact ⟨x_8984, (eqB 16 x_10116 x_10120), m7596, m7597, m7598, m7600, m7601, m7602, m7603, m7605, m7586, m7591, hR, CF10123, L, hx10123, L, rfl, ay0_8985, py0_8986, cy0_8988, Fy0_8989, b7595, m7596.length, am7596, pm7596, cm7596, Fm7596, b7599, m7600.length, am7600, pm7600, cm7600, Fm7600, m7603.length, am7603, pm7603, cm7603, Fm7603, m7605.length, am7605, pm7605, cm7605, Fm7605, (zer (zer (zer zen))), h10122, hf8990_0, hm7596, hm7600, hm7603, hm7605⟩
               ·
                replace hR := ifF hR hc10112
                obtain ⟨hc10124, hR⟩ := hR
                subst hc10124
                refine W.regionD FAesExact.mixed [(0, true), (1, true), (2, true), (3, true), (4, true), (5, true), (6, true), (7, true), (9, true), (10, true), (11, true), (12, true), (13, true), (14, true), (15, true), (16, true), (8, false), (17, false), (18, true), (19, true)] (by kernel_rfl) ?_
                have h10125 := h8990.drew
                refine Plan.move_ptr rfl rfl <| Plan.move_int rfl rfl <| Plan.nilCheck rfl rfl <| Plan.fieldAddr0 FAesExact.fld53_0 rfl rfl <| Plan.idxArrO (j := 1) (o' := 1) FAesExact.arr46 rfl rfl rfl (by omega) rfl <| Plan.load0 h10125 27 rfl rfl rfl (by omega) FAesExact.sc30 <| Plan.fieldAddr 5 FAesExact.fld56_5 rfl rfl <| Plan.loadA1 h10125 6 rfl rfl rfl FAesExact.agg27 ?_
                refine Plan.move_ptr rfl rfl <| Plan.move_int rfl rfl <| Plan.nilCheck rfl rfl <| Plan.fieldAddr 2 FAesExact.fld53_1 rfl rfl <| Plan.idxArrO (j := 1) (o' := 3) FAesExact.arr48 rfl rfl rfl (by omega) rfl <| Plan.load0 h10125 29 rfl rfl rfl (by omega) FAesExact.sc47 <| Plan.fieldAddr 5 FAesExact.fld56_5 rfl rfl <| Plan.loadA1 h10125 6 rfl rfl rfl FAesExact.agg27 ?_
                have h10126 := St.pickT (C := [_, _, _, _, _, _, _, _, _, _, _, _, _, _, _, _, _, _, _, _, _, _, _, _, _, _, _, _, _, _, _, _]) h10125 [12, 13, 14, 15, 0, 1, 2, 3, 4, 5, 6, 7, 8, 9, 10, 11, 16, 17, 18, 19, 20, 21, 22, 23, 24, 25, 26, 27, 28, 29, 30, 31] (by decide)
                simp only [pick, zfc, zfn, zgz, zgs, zca, zna] at h10126
                obtain ⟨x_10128, hr10127, hR⟩ := hR
                refine Plan.call (vs := [.pointer (some ⟨b7590, 0, none⟩), AG [(16, fun q => VU .u8 (((script1.getD i_7584 ((0 : Int), (0 : Int), 0#8, 0#8, 0#64, (fun _ => 0#8), ([] : List Byte))).2.2.2.2.2.1) q))]]) rfl FAesExact.call17 rfl (aes_Cipher_Decrypt_ok  hr10127 h10126) ?_
                rintro _ w10129 ⟨rfl, h10129⟩
                refine ⟨_, rfl, .inl ⟨PIn.keep (PIn.cons 10 rfl (PIn.cons 29 rfl (PIn.cons 10 rfl (PIn.cons 27 rfl PIn.nil)))) h10129, ?_⟩⟩
                have h10130 := St.pickT (C := [_, _, _, _, _, _, _, _, _, _, _, _, _, _, _, _, _, _, _, _, _, _, _, _, _, _, _, _, _, _, _, _]) h10129 [21, 22, 23, 0, 1, 2, 3, 4, 5, 6, 7, 8, 9, 10, 11, 12, 13, 14, 15, 16, 17, 18, 19, 20, 24, 25, 26, 27, 28, 29, 30, 31] (by decide)
                simp only [pick, zfc, zfn, zgz, zgs, zca, zna] at h10130
                obtain ⟨x_10132, hr10131, hR⟩ := hR
                refine Plan.call (vs := [.pointer (some ⟨b7599, 0, none⟩), AG [(16, fun q => VU .u8 (((script1.getD i_7584 ((0 : Int), (0 : Int), 0#8, 0#8, 0#64, (fun _ => 0#8), ([] : List Byte))).2.2.2.2.2.1) q))]]) rfl FAesExact.call35 rfl (letheref04_Cipher_Decrypt_ok (by exact (LO.lvf D76_flat hm7600 20 rfl)) hr10131 h10130) ?_
                rintro _ w10133 ⟨rfl, h10133⟩
                refine ⟨_, rfl, .inl ⟨PIn.keep (PIn.cons 13 rfl (PIn.cons 29 rfl (PIn.cons 13 rfl (PIn.cons 27 rfl PIn.nil)))) h10133, ?_⟩⟩
                refine Plan.eqArrV (b := (eqB 16 x_10128 x_10132)) FAesExact.arrI27 rfl rfl rfl rfl <| Plan.assign_bool rfl rfl <| Plan.nil ?_
                refine blockR_norm ?_
                have h10134 := St.pickT (C := [_, _, _, _, _, _, _, _, _, _, _, _, _, _, _, _, _, _, _, _, _, _, _, _, _, _, _, _, _, _, _, _]) h10133 [7, 19, 20, 21, 22, 23, 0, 1, 2, 24, 25, 8, 9, 10, 11, 12, 13, 14, 15, 16, 17, 18, 3, 4, 5, 6, 26, 27, 28, 29, 30, 31] (by decide)
                simp only [pick, zfc, zfn, zgz, zgs, zca, zna] at h10134
                obtain ⟨CF10135, hx10135, hy10135⟩ := hFj9632
                exact ⟨x_8984, (eqB 16 x_10128 x_10132), m7596, m7597, m7598, m7600, m7601, m7602, m7603, m7605, m7586, m7591, hR, CF10135, L, hx10135, L, rfl, ay0_8985, py0_8986, cy0_8988, Fy0_8989, b7595, m7596.length, am7596, pm7596, cm7596, Fm7596, b7599, m7600.length, am7600, pm7600, cm7600, Fm7600, m7603.length, am7603, pm7603, cm7603, Fm7603, m7605.length, am7605, pm7605, cm7605, Fm7605, (zer (zer (zer zen))), h10134, hf8990_0, hm7596, hm7600, hm7603, hm7605⟩
              ·
               replace hR := ifF hR hc10111
               refine W.condF (congrArg Value.bool (decide_eq_false hc10111)) ?_
               refine W.seq_k fun _ k10136 => W.regionT [(0, true), (1, true)] (by kernel_rfl) ?_
               refine Plan.cmpP (a := ((script1.getD i_7584 ((0 : Int), (0 : Int), 0#8, 0#8, 0#64, (fun _ => 0#8), ([] : List Byte))).1 : Int)) (b := (6 : Int)) (p := (script1.getD i_7584 ((0 : Int), (0 : Int), 0#8, 0#8, 0#64, (fun _ => 0#8), ([] : List Byte))).1 = 6) rfl rfl rfl rfl icmp_eq ?_
               refine Plan.assign_bool rfl rfl <| Plan.nil (k10136 _ _ ?_); clear k10136
               by_cases hc10137 : (script1.getD i_7584 ((0 : Int), (0 : Int), 0#8, 0#8, 0#64, (fun _ => 0#8), ([] : List Byte))).1 = 6
               ·
                replace hR := ifT hR hc10137
                refine W.condT (congrArg Value.bool (decide_eq_true hc10137)) ?_
                refine W.seq_k fun _ k10138 => ?_
                by_cases hc10139 : kz8981 = 0
                ·
                 replace hR := ifT hR hc10139
                 subst hc10139
                 refine W.regionD FAesExact.mixed [(0, true), (1, true), (2, true), (3, true), (4, true), (5, true), (6, true), (7, true), (8, true), (9, false), (10, true)] (by kernel_rfl) ?_
                 have h10140 := h8990.drew
                 refine Plan.move_ptr rfl rfl <| Plan.move_int rfl rfl <| Plan.nilCheck rfl rfl <| Plan.fieldAddr0 FAesExact.fld53_0 rfl rfl <| Plan.idxArrO (j := 0) (o' := 0) FAesExact.arr46 rfl rfl rfl (by omega) rfl <| Plan.load0 h10140 26 rfl rfl rfl (by omega) FAesExact.sc30 <| Plan.fieldAddr 5 FAesExact.fld56_5 rfl rfl <| Plan.loadA1 h10140 6 rfl rfl rfl FAesExact.agg27 ?_
                 refine Plan.move_slice rfl rfl ?_
                 have h10141 := St.pickT (C := [_, _, _, _, _, _, _, _, _, _, _, _, _, _, _, _, _, _, _, _, _, _, _, _, _, _, _, _, _, _, _, _]) h10140 [8, 9, 10, 11, 0, 1, 2, 3, 4, 5, 6, 7, 12, 13, 14, 15, 16, 17, 18, 19, 20, 21, 22, 23, 24, 25, 26, 27, 28, 29, 30, 31] (by decide)
                 simp only [pick, zfc, zfn, zgz, zgs, zca, zna] at h10141
                 obtain ⟨x_10143, hr10142, hR⟩ := hR
                 refine Plan.call (vs := [.pointer (some ⟨b7585, 0, none⟩), AG [(16, fun q => VU .u8 (((script1.getD i_7584 ((0 : Int), (0 : Int), 0#8, 0#8, 0#64, (fun _ => 0#8), ([] : List Byte))).2.2.2.2.2.1) q))], .slice (if cy0_8988 = 0 then (ay0_8985 : Option Addr) else (ay0_8985 : Option Addr).map (·.add (0 * 1))) (((script1.getD i_7584 ((0 : Int), (0 : Int), 0#8, 0#8, 0#64, (fun _ => 0#8), ([] : List Byte))).2.2.2.2.2.2).length - 0) (cy0_8988 - 0)]) rfl FAesExact.call13 rfl (aes_Cipher_Stream_ok (by exact ((hf8990_0.bx 0 rfl).seg (lo := 0) (hi := ((script1.getD i_7584 ((0 : Int), (0 : Int), 0#8, 0#8, 0#64, (fun _ => 0#8), ([] : List Byte))).2.2.2.2.2.2).length) hc8992)) hr10142 h10141) ?_
                 rintro _ w10149 ⟨ay0_10144, py0_10145, ny0_10146, cy0_10147, Fy0_10148, rfl, h10149, hf10149_0⟩
                 obtain rfl := hf10149_0.hl
                 refine ⟨_, rfl, .inr ⟨rfl, ?_⟩⟩
                 refine Plan.assign_slice rfl rfl <| Plan.nil (k10138 _ _ ?_); clear k10138
                 refine W.seq_k fun _ k10150 => ?_
                 refine W.regionD FAesExact.mixed [(0, true), (1, true), (2, true), (3, true), (4, true), (5, true), (6, true), (7, true), (8, true), (9, true), (10, true), (11, false), (12, false), (13, true)] (by kernel_rfl) ?_
                 have h10151 := h10149.drew
                 refine Plan.move_slice rfl rfl <| Plan.move_ptr rfl rfl <| Plan.move_int rfl rfl <| Plan.nilCheck rfl rfl <| Plan.fieldAddr 2 FAesExact.fld53_1 rfl rfl <| Plan.idxArrO (j := 0) (o' := 2) FAesExact.arr48 rfl rfl rfl (by omega) rfl <| Plan.load0 h10151 29 rfl rfl rfl (by omega) FAesExact.sc47 <| Plan.fieldAddr 5 FAesExact.fld56_5 rfl rfl ?_
                 refine Plan.loadA1 h10151 11 rfl rfl rfl FAesExact.agg27 <| Plan.fieldAddr 21 FAesExact.fld56_6 rfl rfl <| Plan.load0 h10151 12 rfl rfl rfl (by omega) FAesExact.sc28 ?_
                 have h10152 := St.pickT (C := [_, _, _, _, _, _, _, _, _, _, _, _, _, _, _, _, _, _, _, _, _, _, _, _, _, _, _, _, _, _, _, _, _]) h10151 [18, 19, 20, 0, 1, 2, 3, 4, 5, 6, 7, 8, 9, 10, 11, 12, 13, 14, 15, 16, 17, 21, 22, 23, 24, 25, 26, 27, 28, 29, 30, 31, 32] (by decide)
                 simp only [pick, zfc, zfn, zgz, zgs, zca, zna] at h10152
                 obtain ⟨x_10154, hr10153, hR⟩ := hR
                 refine Plan.call (vs := [.pointer (some ⟨b7595, 0, none⟩), AG [(16, fun q => VU .u8 (((script1.getD i_7584 ((0 : Int), (0 : Int), 0#8, 0#8, 0#64, (fun _ => 0#8), ([] : List Byte))).2.2.2.2.2.1) q))], .slice ((b7644).1) (((script1.getD i_7584 ((0 : Int), (0 : Int), 0#8, 0#8, 0#64, (fun _ => 0#8), ([] : List Byte))).2.2.2.2.2.2).length) ((b7644).2)]) rfl FAesExact.call36 rfl (letheref04_Cipher_Hide_ok (by exact (LO.lvf D76_flat hm7596 17 rfl)) (hv7644_6.app [_, _, _, _, _, _, _, _, _, _, _, _, _, _, _, _, _, _, _, _, _, _, _, _, _, _, _, _, _, _]) hr10153 h10152) ?_
                 rintro _ w10160 ⟨ay0_10155, py0_10156, ny0_10157, cy0_10158, Fy0_10159, rfl, h10160, hf10160_0⟩
                 obtain rfl := hf10160_0.hl
                 refine ⟨_, rfl, .inr ⟨rfl, ?_⟩⟩
                 obtain ⟨x_10162, hr10161, hR⟩ := hR
                 refine Plan.call (vs := [.slice ay0_10144 x_10143.length cy0_10147, .slice ay0_10155 x_10154.length cy0_10158]) rfl FAesExact.call14 rfl (lethelaw04_Eq_ok (by exact (hf10149_0.bx 4 rfl)) (by exact (hf10160_0.bx 0 rfl)) hr10161 h10160) ?_
                 rintro _ w10163 ⟨rfl, h10163⟩
                 refine ⟨_, rfl, .inl ⟨PIn.keep PIn.nil h10163, ?_⟩⟩
                 refine Plan.assign_bool rfl rfl <| Plan.nil (k10150 _ _ ?_); clear k10150
                 refine W.regionT [(0, true), (1, true), (2, true), (3, true), (4, false)] (by kernel_rfl) ?_
                 refine Plan.move_ptr rfl rfl <| Plan.nilCheck rfl rfl <| Plan.fieldAddr 4 FAesExact.fld53_2 rfl rfl <| Plan.move_slice rfl rfl ?_
                 have h10164 := St.pickT (C := [_, _, _, _, _, _, _, _, _, _, _, _, _, _, _, _, _, _, _, _, _, _, _, _, _, _, _, _, _, _, _, _, _, _]) h10163 [32, 26, 33, 27, 4, 0, 1, 2, 3, 5, 6, 7, 8, 9, 10, 11, 12, 13, 14, 15, 16, 17, 18, 19, 20, 21, 22, 23, 24, 25, 28, 29, 30, 31] (by decide)
                 simp only [pick, zfc, zfn, zgz, zgs, zca, zna] at h10164
                 obtain ⟨x_10166, x_10167, hr10165, hR⟩ := hR
                 refine Plan.call (vs := [.pointer (some ⟨b4, 4, none⟩), .slice ay0_10144 x_10143.length cy0_10147]) rfl FAesExact.call37 rfl (lethelaw04_Book_Note_at4_ok (LP := L) (by exact fun r hr => List.mem_append_right [_, _, _, _, _, _, _, _, _, _, _, _, _, _, _, _, _, _, _, _, _, _, _, _, _, _, _, _, _] ((fun _ h => h) r hr)) (by exact LO.grow D28_lifts (fun r hr => hr) hm7603) (by exact LO.grow D28_lifts (fun r hr => hr) hm7605) (by exact hf10149_0) hr10165 h10164) ?_
                 rintro _ w10178 ⟨C10178, aqbLists2_10168, pqbLists2_10169, nqbLists2_10170, cqbLists2_10171, FqbLists2_10172, aqbWant3_10173, pqbWant3_10174, nqbWant3_10175, cqbWant3_10176, FqbWant3_10177, rfl, h10178, hf10178_0, hf10178_1⟩
                 try dsimp only at hf10178_0 hf10178_1
                 obtain rfl := hf10178_0.hl
                 obtain rfl := hf10178_1.hl
                 replace h10178 := St.pool (N := [_, _, _, _]) (R := [_, _, _, _, _, _, _, _, _, _, _, _, _, _, _, _, _, _, _, _, _, _, _, _, _, _, _, _, _]) h10178
                 obtain ⟨L, hL10179⟩ : ∃ X, X = C10178 ++ L := ⟨_, rfl⟩
                 have h10179 := St.re (N := [_, _, _, _, _, _, _, _, _, _, _, _, _, _, _, _, _, _, _, _, _, _, _, _, _, _, _, _, _, _, _, _, _]) hL10179 h10178
                 simp only [zca, zna] at h10179
                 replace hFr : Fr2 _ _ L L := hFr.step hL10179 hL10179
                 replace hFj7627 : Fr2 _ _ L L := hFj7627.step hL10179 hL10179
                 replace hFj8956 : Fr2 _ _ L L := hFj8956.step hL10179 hL10179
                 replace hFj9632 : Fr2 _ _ L L := hFj9632.step hL10179 hL10179
                 obtain ⟨ix10180, hv10180⟩ : ∃ i, Bx L i ((b7644).1) (((script1.getD i_7584 ((0 : Int), (0 : Int), 0#8, 0#8, 0#64, (fun _ => 0#8), ([] : List Byte))).2.2.2.2.2.2).length) ((b7644).2) ((script1.getD i_7584 ((0 : Int), (0 : Int), 0#8, 0#8, 0#64, (fun _ => 0#8), ([] : List Byte))).2.2.2.2.2.2) := ⟨_, by rw [hL10179]; exact hv7644_6.app _⟩
                 have ho10181 : LO (D28.at L) [] aqbLists2_10168 pqbLists2_10169 (x_10166).length cqbLists2_10171 FqbLists2_10172 x_10166 := LO.grow D28_lifts (fun r hr => (by rw [hL10179]; exact hr)) hf10178_0
                 have ho10182 : LO (D28.at L) [] aqbWant3_10173 pqbWant3_10174 (x_10167).length cqbWant3_10176 FqbWant3_10177 x_10167 := LO.grow D28_lifts (fun r hr => (by rw [hL10179]; exact hr)) hf10178_1
                 refine ⟨_, rfl, .inl ⟨PIn.keep PIn.nil h10179, ?_⟩⟩
                 refine Plan.nil ?_
                 refine blockR_norm ?_
                 have h10183 := St.pickT (C := [_, _, _, _, _, _, _, _, _, _, _, _, _, _, _, _, _, _, _, _, _, _, _, _, _, _, _, _, _, _, _, _, _]) h10179 [12, 24, 5, 6, 7, 25, 26, 27, 28, 1, 3, 13, 14, 15, 16, 17, 18, 19, 8, 9, 10, 11, 20, 21, 22, 23, 29, 30, 31, 32, 0, 2] (by decide)
                 simp only [pick, zfc, zfn, zgz, zgs, zca, zna] at h10183
                 obtain ⟨CF10184, hx10184, hy10184⟩ := hFj9632
                 exact ⟨x_8984, x_10162, m7596, m7597, m7598, m7600, m7601, m7602, x_10166, x_10167, m7586, m7591, hR, CF10184, L, hx10184, L, rfl, ay0_8985, py0_8986, cy0_8988, Fy0_8989, b7595, m7596.length, am7596, pm7596, cm7596, Fm7596, b7599, m7600.length, am7600, pm7600, cm7600, Fm7600, x_10166.length, aqbLists2_10168, pqbLists2_10169, cqbLists2_10171, FqbLists2_10172, x_10167.length, aqbWant3_10173, pqbWant3_10174, cqbWant3_10176, FqbWant3_10177, (zer (zer (zer zen))), h10183, hf8990_0, hm7596, hm7600, ho10181, ho10182⟩
                ·
                 replace hR := ifF hR hc10139
                 obtain ⟨hc10185, hR⟩ := hR
                 subst hc10185
                 refine W.regionD FAesExact.mixed [(0, true), (1, true), (2, true), (3, true), (4, true), (5, true), (6, true), (7, true), (8, true), (9, false), (10, true)] (by kernel_rfl) ?_
                 have h10186 := h8990.drew
                 refine Plan.move_ptr rfl rfl <| Plan.move_int rfl rfl <| Plan.nilCheck rfl rfl <| Plan.fieldAddr0 FAesExact.fld53_0 rfl rfl <| Plan.idxArrO (j := 1) (o' := 1) FAesExact.arr46 rfl rfl rfl (by omega) rfl <| Plan.load0 h10186 27 rfl rfl rfl (by omega) FAesExact.sc30 <| Plan.fieldAddr 5 FAesExact.fld56_5 rfl rfl <| Plan.loadA1 h10186 6 rfl rfl rfl FAesExact.agg27 ?_
                 refine Plan.move_slice rfl rfl ?_
                 have h10187 := St.pickT (C := [_, _, _, _, _, _, _, _, _, _, _, _, _, _, _, _, _, _, _, _, _, _, _, _, _, _, _, _, _, _, _, _]) h10186 [12, 13, 14, 15, 0, 1, 2, 3, 4, 5, 6, 7, 8, 9, 10, 11, 16, 17, 18, 19, 20, 21, 22, 23, 24, 25, 26, 27, 28, 29, 30, 31] (by decide)
                 simp only [pick, zfc, zfn, zgz, zgs, zca, zna] at h10187
                 obtain ⟨x_10189, hr10188, hR⟩ := hR
                 refine Plan.call (vs := [.pointer (some ⟨b7590, 0, none⟩), AG [(16, fun q => VU .u8 (((script1.getD i_7584 ((0 : Int), (0 : Int), 0#8, 0#8, 0#64, (fun _ => 0#8), ([] : List Byte))).2.2.2.2.2.1) q))], .slice (if cy0_8988 = 0 then (ay0_8985 : Option Addr) else (ay0_8985 : Option Addr).map (·.add (0 * 1))) (((script1.getD i_7584 ((0 : Int), (0 : Int), 0#8, 0#8, 0#64, (fun _ => 0#8), ([] : List Byte))).2.2.2.2.2.2).length - 0) (cy0_8988 - 0)]) rfl FAesExact.call13 rfl (aes_Cipher_Stream_ok (by exact ((hf8990_0.bx 0 rfl).seg (lo := 0) (hi := ((script1.getD i_7584 ((0 : Int), (0 : Int), 0#8, 0#8, 0#64, (fun _ => 0#8), ([] : List Byte))).2.2.2.2.2.2).length) hc8992)) hr10188 h10187) ?_
                 rintro _ w10195 ⟨ay0_10190, py0_10191, ny0_10192, cy0_10193, Fy0_10194, rfl, h10195, hf10195_0⟩
                 obtain rfl := hf10195_0.hl
                 refine ⟨_, rfl, .inr ⟨rfl, ?_⟩⟩
                 refine Plan.assign_slice rfl rfl <| Plan.nil (k10138 _ _ ?_); clear k10138
                 refine W.seq_k fun _ k10196 => ?_
                 refine W.regionD FAesExact.mixed [(0, true), (1, true), (2, true), (3, true), (4, true), (5, true), (6, true), (7, true), (8, true), (9, true), (10, true), (11, false), (12, false), (13, true)] (by kernel_rfl) ?_
                 have h10197 := h10195.drew
                 refine Plan.move_slice rfl rfl <| Plan.move_ptr rfl rfl <| Plan.move_int rfl rfl <| Plan.nilCheck rfl rfl <| Plan.fieldAddr 2 FAesExact.fld53_1 rfl rfl <| Plan.idxArrO (j := 1) (o' := 3) FAesExact.arr48 rfl rfl rfl (by omega) rfl <| Plan.load0 h10197 30 rfl rfl rfl (by omega) FAesExact.sc47 <| Plan.fieldAddr 5 FAesExact.fld56_5 rfl rfl ?_
                 refine Plan.loadA1 h10197 11 rfl rfl rfl FAesExact.agg27 <| Plan.fieldAddr 21 FAesExact.fld56_6 rfl rfl <| Plan.load0 h10197 12 rfl rfl rfl (by omega) FAesExact.sc28 ?_
                 have h10198 := St.pickT (C := [_, _, _, _, _, _, _, _, _, _, _, _, _, _, _, _, _, _, _, _, _, _, _, _, _, _, _, _, _, _, _, _, _]) h10197 [22, 23, 24, 0, 1, 2, 3, 4, 5, 6, 7, 8, 9, 10, 11, 12, 13, 14, 15, 16, 17, 18, 19, 20, 21, 25, 26, 27, 28, 29, 30, 31, 32] (by decide)
                 simp only [pick, zfc, zfn, zgz, zgs, zca, zna] at h10198
                 obtain ⟨x_10200, hr10199, hR⟩ := hR
                 refine Plan.call (vs := [.pointer (some ⟨b7599, 0, none⟩), AG [(16, fun q => VU .u8 (((script1.getD i_7584 ((0 : Int), (0 : Int), 0#8, 0#8, 0#64, (fun _ => 0#8), ([] : List Byte))).2.2.2.2.2.1) q))], .slice ((b7644).1) (((script1.getD i_7584 ((0 : Int), (0 : Int), 0#8, 0#8, 0#64, (fun _ => 0#8), ([] : List Byte))).2.2.2.2.2.2).length) ((b7644).2)]) rfl FAesExact.call36 rfl (letheref04_Cipher_Hide_ok (by exact (LO.lvf D76_flat hm7600 21 rfl)) (hv7644_6.app [_, _, _, _, _, _, _, _, _, _, _, _, _, _, _, _, _, _, _, _, _, _, _, _, _, _, _, _, _, _]) hr10199 h10198) ?_
                 rintro _ w10206 ⟨ay0_10201, py0_10202, ny0_10203, cy0_10204, Fy0_10205, rfl, h10206, hf10206_0⟩
                 obtain rfl := hf10206_0.hl
                 refine ⟨_, rfl, .inr ⟨rfl, ?_⟩⟩
                 obtain ⟨x_10208, hr10207, hR⟩ := hR
                 refine Plan.call (vs := [.slice ay0_10190 x_10189.length cy0_10193, .slice ay0_10201 x_10200.length cy0_10204]) rfl FAesExact.call14 rfl (lethelaw04_Eq_ok (by exact (hf10195_0.bx 4 rfl)) (by exact (hf10206_0.bx 0 rfl)) hr10207 h10206) ?_
                 rintro _ w10209 ⟨rfl, h10209⟩
                 refine ⟨_, rfl, .inl ⟨PIn.keep PIn.nil h10209, ?_⟩⟩
                 refine Plan.assign_bool rfl rfl <| Plan.nil (k10196 _ _ ?_); clear k10196
                 refine W.regionT [(0, true), (1, true), (2, true), (3, true), (4, false)] (by kernel_rfl) ?_
                 refine Plan.move_ptr rfl rfl <| Plan.nilCheck rfl rfl <| Plan.fieldAddr 4 FAesExact.fld53_2 rfl rfl <| Plan.move_slice rfl rfl ?_
                 have h10210 := St.pickT (C := [_, _, _, _, _, _, _, _, _, _, _, _, _, _, _, _, _, _, _, _, _, _, _, _, _, _, _, _, _, _, _, _, _, _]) h10209 [32, 26, 33, 27, 4, 0, 1, 2, 3, 5, 6, 7, 8, 9, 10, 11, 12, 13, 14, 15, 16, 17, 18, 19, 20, 21, 22, 23, 24, 25, 28, 29, 30, 31] (by decide)
                 simp only [pick, zfc, zfn, zgz, zgs, zca, zna] at h10210
                 obtain ⟨x_10212, x_10213, hr10211, hR⟩ := hR
                 refine Plan.call (vs := [.pointer (some ⟨b4, 4, none⟩), .slice ay0_10190 x_10189.length cy0_10193]) rfl FAesExact.call37 rfl (lethelaw04_Book_Note_at4_ok (LP := L) (by exact fun r hr => List.mem_append_right [_, _, _, _, _, _, _, _, _, _, _, _, _, _, _, _, _, _, _, _, _, _, _, _, _, _, _, _, _] ((fun _ h => h) r hr)) (by exact LO.grow D28_lifts (fun r hr => hr) hm7603) (by exact LO.grow D28_lifts (fun r hr => hr) hm7605) (by exact hf10195_0) hr10211 h10210) ?_
                 rintro _ w10224 ⟨C10224, aqbLists2_10214, pqbLists2_10215, nqbLists2_10216, cqbLists2_10217, FqbLists2_10218, aqbWant3_10219, pqbWant3_10220, nqbWant3_10221, cqbWant3_10222, FqbWant3_10223, rfl, h10224, hf10224_0, hf10224_1⟩
                 try dsimp only at hf10224_0 hf10224_1
                 obtain rfl := hf10224_0.hl
                 obtain rfl := hf10224_1.hl
                 replace h10224 := St.pool (N := [_, _, _, _]) (R := [_, _, _, _, _, _, _, _, _, _, _, _, _, _, _, _, _, _, _, _, _, _, _, _, _, _, _, _, _]) h10224
                 obtain ⟨L, hL10225⟩ : ∃ X, X = C10224 ++ L := ⟨_, rfl⟩
                 have h10225 := St.re (N := [_, _, _, _, _, _, _, _, _, _, _, _, _, _, _, _, _, _, _, _, _, _, _, _, _, _, _, _, _, _, _, _, _]) hL10225 h10224
                 simp only [zca, zna] at h10225
                 replace hFr : Fr2 _ _ L L := hFr.step hL10225 hL10225
                 replace hFj7627 : Fr2 _ _ L L := hFj7627.step hL10225 hL10225
                 replace hFj8956 : Fr2 _ _ L L := hFj8956.step hL10225 hL10225
                 replace hFj9632 : Fr2 _ _ L L := hFj9632.step hL10225 hL10225
                 obtain ⟨ix10226, hv10226⟩ : ∃ i, Bx L i ((b7644).1) (((script1.getD i_7584 ((0 : Int), (0 : Int), 0#8, 0#8, 0#64, (fun _ => 0#8), ([] : List Byte))).2.2.2.2.2.2).length) ((b7644).2) ((script1.getD i_7584 ((0 : Int), (0 : Int), 0#8, 0#8, 0#64, (fun _ => 0#8), ([] : List Byte))).2.2.2.2.2.2) := ⟨_, by rw [hL10225]; exact hv7644_6.app _⟩
                 have ho10227 : LO (D28.at L) [] aqbLists2_10214 pqbLists2_10215 (x_10212).length cqbLists2_10217 FqbLists2_10218 x_10212 := LO.grow D28_lifts (fun r hr => (by rw [hL10225]; exact hr)) hf10224_0
                 have ho10228 : LO (D28.at L) [] aqbWant3_10219 pqbWant3_10220 (x_10213).length cqbWant3_10222 FqbWant3_10223 x_10213 := LO.grow D28_lifts (fun r hr => (by rw [hL10225]; exact hr)) hf10224_1
                 refine ⟨_, rfl, .inl ⟨PIn.keep PIn.nil h10225, ?_⟩⟩
                 refine Plan.nil ?_
                 refine blockR_norm ?_
                 have h10229 := St.pickT (C := [_, _, _, _, _, _, _, _, _, _, _, _, _, _, _, _, _, _, _, _, _, _, _, _, _, _, _, _, _, _, _, _, _]) h10225 [12, 24, 25, 26, 27, 28, 5, 6, 7, 1, 3, 13, 14, 15, 16, 17, 18, 19, 20, 21, 22, 23, 8, 9, 10, 11, 29, 30, 31, 32, 0, 2] (by decide)
                 simp only [pick, zfc, zfn, zgz, zgs, zca, zna] at h10229
                 obtain ⟨CF10230, hx10230, hy10230⟩ := hFj9632
                 exact ⟨x_8984, x_10208, m7596, m7597, m7598, m7600, m7601, m7602, x_10212, x_10213, m7586, m7591, hR, CF10230, L, hx10230, L, rfl, ay0_8985, py0_8986, cy0_8988, Fy0_8989, b7595, m7596.length, am7596, pm7596, cm7596, Fm7596, b7599, m7600.length, am7600, pm7600, cm7600, Fm7600, x_10212.length, aqbLists2_10214, pqbLists2_10215, cqbLists2_10217, FqbLists2_10218, x_10213.length, aqbWant3_10219, pqbWant3_10220, cqbWant3_10222, FqbWant3_10223, (zer (zer (zer zen))), h10229, hf8990_0, hm7596, hm7600, ho10227, ho10228⟩
               ·
                replace hR := ifF hR hc10137
                refine W.condF (congrArg Value.bool (decide_eq_false hc10137)) ?_
                refine W.seq_k fun _ k10231 => W.regionT [(0, true), (1, true)] (by kernel_rfl) ?_
                refine Plan.cmpP (a := ((script1.getD i_7584 ((0 : Int), (0 : Int), 0#8, 0#8, 0#64, (fun _ => 0#8), ([] : List Byte))).1 : Int)) (b := (7 : Int)) (p := (script1.getD i_7584 ((0 : Int), (0 : Int), 0#8, 0#8, 0#64, (fun _ => 0#8), ([] : List Byte))).1 = 7) rfl rfl rfl rfl icmp_eq ?_
                refine Plan.assign_bool rfl rfl <| Plan.nil (k10231 _ _ ?_); clear k10231
                by_cases hc10232 : (script1.getD i_7584 ((0 : Int), (0 : Int), 0#8, 0#8, 0#64, (fun _ => 0#8), ([] : List Byte))).1 = 7
                ·
                 replace hR := ifT hR hc10232
                 refine W.condT (congrArg Value.bool (decide_eq_true hc10232)) ?_
                 refine W.seq_k fun _ k10233 => ?_
                 by_cases hc10234 : kz8981 = 0
                 ·
                  replace hR := ifT hR hc10234
                  subst hc10234
                  refine W.regionT [(0, true), (1, true), (2, true), (3, true), (4, true), (5, true), (6, false)] (by kernel_rfl) ?_
                  refine Plan.move_ptr rfl rfl <| Plan.move_int rfl rfl <| Plan.nilCheck rfl rfl <| Plan.fieldAddr0 FAesExact.fld53_0 rfl rfl <| Plan.idxArrO (j := 0) (o' := 0) FAesExact.arr46 rfl rfl rfl (by omega) rfl <| Plan.load0 h8990 26 rfl rfl rfl (by omega) FAesExact.sc30 ?_
                  have h10235 := St.pickT (C := [_, _, _, _, _, _, _, _, _, _, _, _, _, _, _, _, _, _, _, _, _, _, _, _, _, _, _, _, _, _, _, _]) h8990 [8, 9, 10, 11, 0, 1, 2, 3, 4, 5, 6, 7, 12, 13, 14, 15, 16, 17, 18, 19, 20, 21, 22, 23, 24, 25, 26, 27, 28, 29, 30, 31] (by decide)
                  simp only [pick, zfc, zfn, zgz, zgs, zca, zna] at h10235
                  obtain ⟨x_10237, hr10236, hR⟩ := hR
                  refine Plan.call (vs := [.pointer (some ⟨b7585, 0, none⟩)]) rfl FAesExact.call20 rfl (aes_Cipher_Wipe_ok  hr10236 h10235) ?_
                  rintro _ w10238 ⟨rfl, h10238⟩
                  refine ⟨_, rfl, .inr ⟨rfl, ?_⟩⟩
                  refine Plan.nil (k10233 _ _ ?_); clear k10233
                  refine W.regionD FAesExact.mixed [(0, true), (1, true), (4, true), (5, true), (2, false), (3, false), (6, true), (7, false)] (by kernel_rfl) ?_
                  have h10239 := h10238.drew
                  refine Plan.move_ptr rfl rfl <| Plan.move_int rfl rfl <| Plan.nilCheck rfl rfl <| Plan.fieldAddr 2 FAesExact.fld53_1 rfl rfl ?_
                  refine Plan.makeO (len := 32) (c := 32) h10239 FAesExact.el28 rfl rfl rfl (by omega) (by omega) (fun _ => EffO.keep PIn.nil) fun b10240 w10240 hb10240 ho10240 h10240 => ?_
                  rcases hR with ⟨hr10241, hR⟩ | ⟨x_10242, x_10243, x_10244, hr10241, hR⟩
                  ·
                   refine Plan.call (vs := [.slice (some ⟨b10240, 0, none⟩) ((List.replicate 32 0#8).length) 32]) rfl FAesExact.call38 rfl (letheref04_New_ok (by exact (ho10240.bx 0 rfl)) hr10241 h10240) ?_
                   rintro _ w10245 ⟨rfl, h10245⟩
                   refine ⟨_, rfl, .inl ⟨PIn.keep PIn.nil h10245, ?_⟩⟩
                   refine Plan.idxArrO (j := 0) (o' := 2) FAesExact.arr48 rfl rfl rfl (by omega) rfl ?_
                   exact hR.elim
                  ·
                   refine Plan.call (vs := [.slice (some ⟨b10240, 0, none⟩) ((List.replicate 32 0#8).length) 32]) rfl FAesExact.call38 rfl (letheref04_New_ok (by exact (ho10240.bx 0 rfl)) hr10241 h10240) ?_
                   rintro _ w10253 ⟨b0_10247, aw0_0_10248, pw0_0_10249, nw0_0_10250, cw0_0_10251, Fw0_0_10252, rfl, h10253, hf10253_0⟩
                   try dsimp only at hf10253_0
                   obtain rfl := hf10253_0.hl
                   refine ⟨_, rfl, .inl ⟨PIn.keep PIn.nil h10253, ?_⟩⟩
                   refine Plan.idxArrO (j := 0) (o' := 2) FAesExact.arr48 rfl rfl rfl (by omega) rfl ?_
                   refine Plan.storeC h10253 33 rfl rfl rfl rfl rfl FAesExact.sz47 rfl fun w10254 h10254 => ?_
                   simp only [zca, zna, zsz, zss] at h10254
                   refine Plan.nil ?_
                   refine blockR_norm ?_
                   have h10255 := St.pickT (C := [_, _, _, _, _, _, _, _, _, _, _, _, _, _, _, _, _, _, _, _, _, _, _, _, _, _, _, _, _, _, _, _, _, _, _, _, _]) h10254 [9, 1, 0, 2, 3, 25, 26, 27, 28, 29, 30, 10, 11, 12, 13, 14, 15, 16, 5, 6, 7, 8, 17, 18, 19, 20, 31, 32, 33, 34, 35, 36] (by decide)
                   simp only [pick, zfc, zfn, zgz, zgs, zca, zna] at h10255
                   obtain ⟨CF10256, hx10256, hy10256⟩ := hFj9632
                   exact ⟨x_8984, true, x_10242, x_10243, x_10244, m7600, m7601, m7602, m7603, m7605, x_10237, m7591, hR, CF10256, L, hx10256, L, rfl, ay0_8985, py0_8986, cy0_8988, Fy0_8989, b0_10247, x_10242.length, aw0_0_10248, pw0_0_10249, cw0_0_10251, Fw0_0_10252, b7599, m7600.length, am7600, pm7600, cm7600, Fm7600, m7603.length, am7603, pm7603, cm7603, Fm7603, m7605.length, am7605, pm7605, cm7605, Fm7605, (zer (zer (zer zen))), h10255, hf8990_0, hf10253_0, hm7600, hm7603, hm7605⟩
                 ·
                  replace hR := ifF hR hc10234
                  obtain ⟨hc10257, hR⟩ := hR
                  subst hc10257
                  refine W.regionT [(0, true), (1, true), (2, true), (3, true), (4, true), (5, true), (6, false)] (by kernel_rfl) ?_
                  refine Plan.move_ptr rfl rfl <| Plan.move_int rfl rfl <| Plan.nilCheck rfl rfl <| Plan.fieldAddr0 FAesExact.fld53_0 rfl rfl <| Plan.idxArrO (j := 1) (o' := 1) FAesExact.arr46 rfl rfl rfl (by omega) rfl <| Plan.load0 h8990 27 rfl rfl rfl (by omega) FAesExact.sc30 ?_
                  have h10258 := St.pickT (C := [_, _, _, _, _, _, _, _, _, _, _, _, _, _, _, _, _, _, _, _, _, _, _, _, _, _, _, _, _, _, _, _]) h8990 [12, 13, 14, 15, 0, 1, 2, 3, 4, 5, 6, 7, 8, 9, 10, 11, 16, 17, 18, 19, 20, 21, 22, 23, 24, 25, 26, 27, 28, 29, 30, 31] (by decide)
                  simp only [pick, zfc, zfn, zgz, zgs, zca, zna] at h10258
                  obtain ⟨x_10260, hr10259, hR⟩ := hR
                  refine Plan.call (vs := [.pointer (some ⟨b7590, 0, none⟩)]) rfl FAesExact.call20 rfl (aes_Cipher_Wipe_ok  hr10259 h10258) ?_
                  rintro _ w10261 ⟨rfl, h10261⟩
                  refine ⟨_, rfl, .inr ⟨rfl, ?_⟩⟩
                  refine Plan.nil (k10233 _ _ ?_); clear k10233
                  refine W.regionD FAesExact.mixed [(0, true), (1, true), (4, true), (5, true), (2, false), (3, false), (6, true), (7, false)] (by kernel_rfl) ?_
                  have h10262 := h10261.drew
                  refine Plan.move_ptr rfl rfl <| Plan.move_int rfl rfl <| Plan.nilCheck rfl rfl <| Plan.fieldAddr 2 FAesExact.fld53_1 rfl rfl ?_
                  refine Plan.makeO (len := 32) (c := 32) h10262 FAesExact.el28 rfl rfl rfl (by omega) (by omega) (fun _ => EffO.keep PIn.nil) fun b10263 w10263 hb10263 ho10263 h10263 => ?_
                  rcases hR with ⟨hr10264, hR⟩ | ⟨x_10265, x_10266, x_10267, hr10264, hR⟩
                  ·
                   refine Plan.call (vs := [.slice (some ⟨b10263, 0, none⟩) ((List.replicate 32 0#8).length) 32]) rfl FAesExact.call38 rfl (letheref04_New_ok (by exact (ho10263.bx 0 rfl)) hr10264 h10263) ?_
                   rintro _ w10268 ⟨rfl, h10268⟩
                   refine ⟨_, rfl, .inl ⟨PIn.keep PIn.nil h10268, ?_⟩⟩
                   refine Plan.idxArrO (j := 1) (o' := 3) FAesExact.arr48 rfl rfl rfl (by omega) rfl ?_
                   exact hR.elim
                  ·
                   refine Plan.call (vs := [.slice (some ⟨b10263, 0, none⟩) ((List.replicate 32 0#8).length) 32]) rfl FAesExact.call38 rfl (letheref04_New_ok (by exact (ho10263.bx 0 rfl)) hr10264 h10263) ?_
                   rintro _ w10276 ⟨b0_10270, aw0_0_10271, pw0_0_10272, nw0_0_10273, cw0_0_10274, Fw0_0_10275, rfl, h10276, hf10276_0⟩
                   try dsimp only at hf10276_0
                   obtain rfl := hf10276_0.hl
                   refine ⟨_, rfl, .inl ⟨PIn.keep PIn.nil h10276, ?_⟩⟩
                   refine Plan.idxArrO (j := 1) (o' := 3) FAesExact.arr48 rfl rfl rfl (by omega) rfl ?_
                   refine Plan.storeC h10276 34 rfl rfl rfl rfl rfl FAesExact.sz47 rfl fun w10277 h10277 => ?_
                   simp only [zca, zna, zsz, zss] at h10277
                   refine Plan.nil ?_
                   refine blockR_norm ?_
                   have h10278 := St.pickT (C := [_, _, _, _, _, _, _, _, _, _, _, _, _, _, _, _, _, _, _, _, _, _, _, _, _, _, _, _, _, _, _, _, _, _, _, _, _]) h10277 [9, 21, 22, 23, 24, 1, 0, 2, 3, 29, 30, 10, 11, 12, 13, 14, 15, 16, 17, 18, 19, 20, 5, 6, 7, 8, 31, 32, 33, 34, 35, 36] (by decide)
                   simp only [pick, zfc, zfn, zgz, zgs, zca, zna] at h10278
                   obtain ⟨CF10279, hx10279, hy10279⟩ := hFj9632
                   exact ⟨x_8984, true, m7596, m7597, m7598, x_10265, x_10266, x_10267, m7603, m7605, m7586, x_10260, hR, CF10279, L, hx10279, L, rfl, ay0_8985, py0_8986, cy0_8988, Fy0_8989, b7595, m7596.length, am7596, pm7596, cm7596, Fm7596, b0_10270, x_10265.length, aw0_0_10271, pw0_0_10272, cw0_0_10274, Fw0_0_10275, m7603.length, am7603, pm7603, cm7603, Fm7603, m7605.length, am7605, pm7605, cm7605, Fm7605, (zer (zer (zer zen))), h10278, hf8990_0, hm7596, hf10276_0, hm7603, hm7605⟩
                ·
                 replace hR := ifF hR hc10232
                 refine W.condF (congrArg Value.bool (decide_eq_false hc10232)) ?_
                 refine W.skip ?_
                 refine blockR_norm ?_
                 have h10280 := St.pickT (C := [_, _, _, _, _, _, _, _, _, _, _, _, _, _, _, _, _, _, _, _, _, _, _, _, _, _, _, _, _, _, _, _]) h8990 [0, 16, 17, 18, 19, 20, 21, 22, 23, 24, 25, 1, 2, 3, 4, 5, 6, 7, 8, 9, 10, 11, 12, 13, 14, 15, 26, 27, 28, 29, 30, 31] (by decide)
                 simp only [pick, zfc, zfn, zgz, zgs, zca, zna] at h10280
                 obtain ⟨CF10281, hx10281, hy10281⟩ := hFj9632
                 exact ⟨x_8984, true, m7596, m7597, m7598, m7600, m7601, m7602, m7603, m7605, m7586, m7591, hR, CF10281, L, hx10281, L, rfl, ay0_8985, py0_8986, cy0_8988, Fy0_8989, b7595, m7596.length, am7596, pm7596, cm7596, Fm7596, b7599, m7600.length, am7600, pm7600, cm7600, Fm7600, m7603.length, am7603, pm7603, cm7603, Fm7603, m7605.length, am7605, pm7605, cm7605, Fm7605, (zer (zer (zer zen))), h10280, hf8990_0, hm7596, hm7600, hm7603, hm7605⟩
         ·
          rintro ev10282 wl10282 ⟨y_x_9618, y_ok9619, y_m9621, y_m9622, y_m9623, y_m9625, y_m9626, y_m9627, y_m9628, y_m9629, y_m9630, y_m9631, ⟨hy10282_0, hy10282_1, hy10282_2, hy10282_3, hy10282_4, hy10282_5, hy10282_6, hy10282_7, hy10282_8, hy10282_9, hy10282_10, hy10282_11, hy10282_12⟩, CG10282, LG10282, hlg10282, L, hLe10282, ax_9618, px_9618, cx_9618, Fx_9618, b9620, n_m9621, am9621, pm9621, cm9621, Fm9621, b9624, n_m9625, am9625, pm9625, cm9625, Fm9625, n_m9628, am9628, pm9628, cm9628, Fm9628, n_m9629, am9629, pm9629, cm9629, Fm9629, he10282, h10282, hx_9618, hm9621, hm9625, hm9628, hm9629⟩
          subst hy10282_1
          subst hy10282_2
          subst hy10282_3
          subst hy10282_4
          subst hy10282_5
          subst hy10282_6
          subst hy10282_7
          subst hy10282_8
          subst hy10282_9
          subst hy10282_10
          subst hy10282_11
          subst hy10282_12
          obtain rfl : List.length (α := (Nat → BitVec 8)) m9621 = n_m9621 := hm9621.hl
          obtain rfl : List.length (α := (Nat → BitVec 8)) m9625 = n_m9625 := hm9625.hl
          obtain rfl : List.length (α := (List Byte)) m9628 = n_m9628 := hm9628.hl
          obtain rfl : List.length (α := (List Byte)) m9629 = n_m9629 := hm9629.hl
          obtain ⟨ev10282, rfl⟩ := he10282.open
          replace hR := hR09632 hy10282_0
          have hL10282 := hLe10282.trans hlg10282
          replace hFr : Fr2 _ _ L L := hFr.step hL10282 hL10282
          replace hFj7627 : Fr2 _ _ L L := hFj7627.step hL10282 hL10282
          replace hFj8956 : Fr2 _ _ L L := hFj8956.step hL10282 hL10282
          replace hFj9632 : Fr2 _ _ L L := hFj9632.step hL10282 hL10282
          obtain ⟨ix10284, hv10284⟩ : ∃ i, Bx L i ((b7644).1) (((script1.getD i_7584 ((0 : Int), (0 : Int), 0#8, 0#8, 0#64, (fun _ => 0#8), ([] : List Byte))).2.2.2.2.2.2).length) ((b7644).2) ((script1.getD i_7584 ((0 : Int), (0 : Int), 0#8, 0#8, 0#64, (fun _ => 0#8), ([] : List Byte))).2.2.2.2.2.2) := ⟨_, by rw [hL10282]; exact hv7644_6.app _⟩
          refine k8995 _ _ ?_; clear k8995
          refine W.seq_k fun _ k10285 => W.regionT [(0, true), (1, true), (2, true), (3, true), (4, true), (5, false), (6, true), (7, true)] (by kernel_rfl) ?_
          by_cases hc10286 : ok9619 = true
          ·
           replace hR := ifT hR hc10286
           refine Plan.move_bool (b := true) rfl (congrArg Value.bool hc10286) <| Plan.move_bool rfl rfl <| Plan.move_slice rfl rfl <| Plan.fieldAddr 21 FAesExact.fld56_6 rfl rfl <| Plan.load0 h10282 17 rfl rfl rfl (by omega) FAesExact.sc28 ?_
           obtain ⟨x_10288, hr10287, hR⟩ := hR
           refine Plan.call (vs := [.slice ax_9618 x_8984.length cx_9618, .slice ((b7644).1) (((script1.getD i_7584 ((0 : Int), (0 : Int), 0#8, 0#8, 0#64, (fun _ => 0#8), ([] : List Byte))).2.2.2.2.2.2).length) ((b7644).2)]) rfl FAesExact.call33 rfl (lethelaw04_Kept_ok (by exact (hx_9618.bx 0 rfl)) (hv10284.app [_, _, _, _, _, _, _, _, _, _, _, _, _, _, _, _, _, _, _, _, _, _, _, _, _, _, _, _, _, _, _, _]) hr10287 h10282) ?_
           rintro _ w10289 ⟨rfl, h10289⟩
           refine ⟨_, rfl, .inr ⟨rfl, ?_⟩⟩
           refine Plan.pickTb rfl rfl rfl <| Plan.assign_bool rfl rfl <| Plan.nil (k10285 _ _ ?_); clear k10285
           refine W.ret (finR_ret ?_)
           have h10290 := St.pickT (C := [_, _, _, _, _, _, _, _, _, _, _, _, _, _, _, _, _, _, _, _, _, _, _, _, _, _, _, _, _, _, _, _]) h10289 [18, 19, 20, 21, 22, 23, 24, 25, 1, 2, 3, 4, 5, 6, 7, 8, 9, 10, 26, 27, 28, 29, 30, 31] (by decide)
           simp only [pick, zfc, zfn, zgz, zgs, zca, zna] at h10290
           obtain ⟨CF10291, hx10291, hy10291⟩ := hFj8956
           refine RetOk.mk (.tmp_bool rfl .nil) ?_
           exact ⟨x_10288, m9630, m7587, m7588, m7589, m9631, m7592, m7593, m7594, m9621, m9622, m9623, m9625, m9626, m9627, m9628, m9629, hR, CF10291, L, hx10291, L, rfl, b7585, b7590, b9620, m9621.length, am9621, pm9621, cm9621, Fm9621, b9624, m9625.length, am9625, pm9625, cm9625, Fm9625, m9628.length, am9628, pm9628, cm9628, Fm9628, m9629.length, am9629, pm9629, cm9629, Fm9629, rfl, h10290, hm9621, hm9625, hm9628, hm9629⟩
          ·
           replace hR := ifF hR hc10286
           refine Plan.move_bool (b := false) rfl (congrArg Value.bool (Bool.eq_false_iff.2 hc10286)) <| Plan.move_bool rfl rfl <| Plan.passed rfl <| Plan.passed rfl <| Plan.passed rfl <| Plan.passed rfl <| Plan.pickFb rfl rfl rfl <| Plan.assign_bool rfl rfl ?_
           refine Plan.nil (k10285 _ _ ?_); clear k10285
           refine W.ret (finR_ret ?_)
           have h10292 := St.pickT (C := [_, _, _, _, _, _, _, _, _, _, _, _, _, _, _, _, _, _, _, _, _, _, _, _, _, _, _, _, _, _, _, _]) h10282 [18, 19, 20, 21, 22, 23, 24, 25, 1, 2, 3, 4, 5, 6, 7, 8, 9, 10, 26, 27, 28, 29, 30, 31] (by decide)
           simp only [pick, zfc, zfn, zgz, zgs, zca, zna] at h10292
           obtain ⟨CF10293, hx10293, hy10293⟩ := hFj8956
           refine RetOk.mk (.tmp_bool rfl .nil) ?_
           exact ⟨false, m9630, m7587, m7588, m7589, m9631, m7592, m7593, m7594, m9621, m9622, m9623, m9625, m9626, m9627, m9628, m9629, hR, CF10293, L, hx10293, L, rfl, b7585, b7590, b9620, m9621.length, am9621, pm9621, cm9621, Fm9621, b9624, m9625.length, am9625, pm9625, cm9625, Fm9625, m9628.length, am9628, pm9628, cm9628, Fm9628, m9629.length, am9629, pm9629, cm9629, Fm9629, rfl, h10292, hm9621, hm9625, hm9628, hm9629⟩
        ·
         rintro _ w10294 ⟨y_script8957, y_m8959, y_m8960, y_m8961, y_m8962, y_m8964, y_m8965, y_m8966, y_m8967, y_m8969, y_m8970, y_m8971, y_m8973, y_m8974, y_m8975, y_m8976, y_m8977, ⟨hy10294_0, hy10294_1, hy10294_2, hy10294_3, hy10294_4, hy10294_5, hy10294_6, hy10294_7, hy10294_8, hy10294_9, hy10294_10, hy10294_11, hy10294_12, hy10294_13, hy10294_14, hy10294_15, hy10294_16⟩, CG10294, LG10294, hlg10294, L, hLe10294, b8958, b8963, b8968, n_m8969, am8969, pm8969, cm8969, Fm8969, b8972, n_m8973, am8973, pm8973, cm8973, Fm8973, n_m8976, am8976, pm8976, cm8976, Fm8976, n_m8977, am8977, pm8977, cm8977, Fm8977, rfl, h10294, hm8969, hm8973, hm8976, hm8977⟩
         subst hy10294_0
         subst hy10294_1
         subst hy10294_2
         subst hy10294_3
         subst hy10294_4
         subst hy10294_5
         subst hy10294_6
         subst hy10294_7
         subst hy10294_8
         subst hy10294_9
         subst hy10294_10
         subst hy10294_11
         subst hy10294_12
         subst hy10294_13
         subst hy10294_14
         subst hy10294_15
         subst hy10294_16
         obtain rfl : List.length (α := (Nat → BitVec 8)) m8969 = n_m8969 := hm8969.hl
         obtain rfl : List.length (α := (Nat → BitVec 8)) m8973 = n_m8973 := hm8973.hl
         obtain rfl : List.length (α := (List Byte)) m8976 = n_m8976 := hm8976.hl
         obtain rfl : List.length (α := (List Byte)) m8977 = n_m8977 := hm8977.hl
         replace hR := hR08956
         refine ⟨_, rfl, .inr ⟨rfl, ?_⟩⟩
         have hL10294 := hLe10294.trans hlg10294
         replace hFr : Fr2 _ _ L L := hFr.step hL10294 hL10294
         replace hFj7627 : Fr2 _ _ L L := hFj7627.step hL10294 hL10294
         replace hFj8956 : Fr2 _ _ L L := hFj8956.step hL10294 hL10294
         obtain ⟨ix10296, hv10296⟩ : ∃ i, LV (D56.at L) L i ascript1 script1.length cscript1 script1 := ⟨_, by rw [hL10294]; exact (LV.grow D56_lifts (fun r hr => List.mem_append_right _ hr) hv7633).app _⟩
         obtain ⟨ix10297, hv10297⟩ : ∃ i, Bx L i ((b7644).1) (((script1.getD i_7584 ((0 : Int), (0 : Int), 0#8, 0#8, 0#64, (fun _ => 0#8), ([] : List Byte))).2.2.2.2.2.2).length) ((b7644).2) ((script1.getD i_7584 ((0 : Int), (0 : Int), 0#8, 0#8, 0#64, (fun _ => 0#8), ([] : List Byte))).2.2.2.2.2.2) := ⟨_, by rw [hL10294]; exact hv7644_6.app _⟩
         refine Plan.assign_bool rfl rfl <| Plan.nil (k7642 _ _ ?_); clear k7642
         refine W.seq_k fun _ k10298 => W.regionT [(0, true), (1, true), (2, true), (3, true), (4, true), (5, true), (6, false), (7, true), (8, true)] (by kernel_rfl) ?_
         by_cases hc10299 : script8957 = true
         ·
          replace hR := ifT hR hc10299
          refine Plan.move_bool (b := true) rfl (congrArg Value.bool hc10299) <| Plan.notT rfl rfl <| Plan.move_bool rfl rfl <| Plan.move_ptr rfl rfl <| Plan.nilCheck rfl rfl <| Plan.fieldAddr 4 FAesExact.fld53_2 rfl rfl ?_
          have h10300 := St.pickT (C := [_, _, _, _, _, _, _, _, _, _, _, _, _, _, _, _, _, _, _, _, _, _, _, _]) h10294 [22, 23, 0, 1, 2, 3, 4, 5, 6, 7, 8, 9, 10, 11, 12, 13, 14, 15, 16, 17, 18, 19, 20, 21] (by decide)
          simp only [pick, zfc, zfn, zgz, zgs, zca, zna] at h10300
          obtain ⟨x_10302, hr10301, hR⟩ := hR
          refine Plan.call (vs := [.pointer (some ⟨b4, 4, none⟩)]) rfl FAesExact.call22 rfl (lethelaw04_Book_Holds_at4_ok (by exact (LV.grow D28_lifts (fun r hr => List.mem_append_right [_, _, _, _, _, _, _, _, _, _, _, _, _, _, _, _, _, _, _, _, _, _] ((fun _ h => h) r hr)) (LO.lvf EL.at_flat hm8976 16 rfl))) (by exact (LV.grow D28_lifts (fun r hr => List.mem_append_right [_, _, _, _, _, _, _, _, _, _, _, _, _, _, _, _, _, _, _, _, _, _] ((fun _ h => h) r hr)) (LO.lvf EL.at_flat hm8977 17 rfl))) hr10301 h10300) ?_
          rintro _ w10303 ⟨rfl, h10303⟩
          refine ⟨_, rfl, .inl ⟨PIn.keep PIn.nil h10303, ?_⟩⟩
          refine Plan.not rfl rfl <| Plan.pickFb rfl rfl rfl <| Plan.nil (k10298 _ _ ?_); clear k10298
          by_cases hc10304 : x_10302 = true
          ·
           replace hR := ifT hR hc10304
           refine W.condF (congrArg Value.bool (congrArg Bool.not hc10304)) ?_
           refine W.skip ?_
           refine blockR_norm ?_
           refine k7641 _ _ ?_; clear k7641
           refine W.regionT [(0, true), (1, true), (2, true)] (by kernel_rfl) ?_
           refine Plan.move_int rfl rfl <| Plan.addN (a := i_7584) (b := 1) rfl rfl rfl (by omega) <| Plan.assign_int rfl rfl <| Plan.nil ?_
           have h10305 := St.pickT (C := [_, _, _, _, _, _, _, _, _, _, _, _, _, _, _, _, _, _, _, _, _, _, _, _]) h10303 [2, 3, 4, 5, 6, 7, 8, 9, 10, 11, 12, 13, 14, 15, 16, 17, 18, 19, 20, 21, 22, 23, 0, 1] (by decide)
           simp only [pick, zfc, zfn, zgz, zgs, zca, zna] at h10305
           obtain ⟨CF10306, hx10306, hy10306⟩ := hFj7627
           exact iterR_norm ⟨_, hR, CF10306, L, hx10306, L, rfl, b8958, b8963, b8968, m8969.length, am8969, pm8969, cm8969, Fm8969, b8972, m8973.length, am8973, pm8973, cm8973, Fm8973, m8976.length, am8976, pm8976, cm8976, Fm8976, m8977.length, am8977, pm8977, cm8977, Fm8977, (zer (zer (zer zen))), h10305, hm8969, hm8973, hm8976, hm8977⟩
          ·
           replace hR := ifF hR hc10304
           refine W.condT (congrArg Value.bool (congrArg Bool.not (Bool.eq_false_iff.2 hc10304))) ?_
           refine W.seq_k fun _ k10307 => W.regionT [(0, true)] (by kernel_rfl) ?_
           refine Plan.assign_bool rfl rfl <| Plan.nil (k10307 _ _ ?_); clear k10307
           refine W.ret (blockR_ret (thenR_ret (iterR_ret (blockR_ret (thenR_ret (thenR_ret (finR_ret ?_)))))))
           have h10308 := St.pickT (C := [_, _, _, _, _, _, _, _, _, _, _, _, _, _, _, _, _, _, _, _, _, _, _, _]) h10303 [] (by decide)
           simp only [pick, zfc, zfn, zgz, zgs, zca, zna] at h10308
           replace hR := hR.2
           subst r
           refine RetOk.mk (.tmp_bool rfl .nil) ?_
           obtain ⟨CF, hx1, hx2⟩ := hFr
           subst hx1
           have hdr := St.dropC (N := []) h10308
           exact ⟨rfl, hdr⟩
         ·
          replace hR := ifF hR hc10299
          refine Plan.move_bool (b := false) rfl (congrArg Value.bool (Bool.eq_false_iff.2 hc10299)) <| Plan.notF rfl rfl <| Plan.move_bool rfl rfl <| Plan.passed rfl <| Plan.passed rfl <| Plan.passed rfl <| Plan.passed rfl <| Plan.passed rfl ?_
          refine Plan.pickTb rfl rfl rfl <| Plan.nil (k10298 _ _ ?_); clear k10298
          refine W.condT rfl ?_
          refine W.seq_k fun _ k10309 => W.regionT [(0, true)] (by kernel_rfl) ?_
          refine Plan.assign_bool rfl rfl <| Plan.nil (k10309 _ _ ?_); clear k10309
          refine W.ret (blockR_ret (thenR_ret (iterR_ret (blockR_ret (thenR_ret (thenR_ret (finR_ret ?_)))))))
          have h10310 := St.pickT (C := [_, _, _, _, _, _, _, _, _, _, _, _, _, _, _, _, _, _, _, _, _, _, _, _]) h10294 [] (by decide)
          simp only [pick, zfc, zfn, zgz, zgs, zca, zna] at h10310
          replace hR := hR.2
          subst r
          refine RetOk.mk (.tmp_bool rfl .nil) ?_
          obtain ⟨CF, hx1, hx2⟩ := hFr
          subst hx1
          have hdr := St.dropC (N := []) h10310
          exact ⟨rfl, hdr⟩
       ·
        replace hR := ifF hR hc7640
        refine W.condF (congrArg Value.bool (decide_eq_false hc7640)) ?_
        refine W.exit (thenR_exit (iterR_exit (blockR_here ?_)))
        obtain ⟨CF10311, hx10311, hy10311⟩ := hFj7627
        exact ⟨m7586, m7587, m7588, m7589, m7591, m7592, m7593, m7594, m7596, m7597, m7598, m7600, m7601, m7602, m7603, m7605, (hx7627 _ hR).symm, CF10311, L, hx10311, L, rfl, b7585, b7590, b7595, m7596.length, am7596, pm7596, cm7596, Fm7596, b7599, m7600.length, am7600, pm7600, cm7600, Fm7600, m7603.length, am7603, pm7603, cm7603, Fm7603, m7605.length, am7605, pm7605, cm7605, Fm7605, (zer zen), h7631, hm7596, hm7600, hm7603, hm7605⟩
      ·
       replace hR := ifF hR hc7639
       refine Plan.cmpV (a := (((i_7584 : Nat) : Int) : Int)) (b := (((script1.length : Nat) : Int) : Int)) (p := i_7584 < script1.length) (v := false) rfl rfl rfl rfl icmp_ltN (decide_eq_false hc7639) <| Plan.move_bool rfl rfl <| Plan.passed rfl <| Plan.passed rfl <| Plan.pickFb rfl rfl rfl <| Plan.nil (k7638 _ _ ?_); clear k7638
       refine W.condF rfl ?_
       refine W.exit (thenR_exit (iterR_exit (blockR_here ?_)))
       obtain ⟨CF10312, hx10312, hy10312⟩ := hFj7627
       exact ⟨m7586, m7587, m7588, m7589, m7591, m7592, m7593, m7594, m7596, m7597, m7598, m7600, m7601, m7602, m7603, m7605, (hx7627 _ hR).symm, CF10312, L, hx10312, L, rfl, b7585, b7590, b7595, m7596.length, am7596, pm7596, cm7596, Fm7596, b7599, m7600.length, am7600, pm7600, cm7600, Fm7600, m7603.length, am7603, pm7603, cm7603, Fm7603, m7605.length, am7605, pm7605, cm7605, Fm7605, (zer zen), h7631, hm7596, hm7600, hm7603, hm7605⟩
     ·
      rintro ev10313 wl10313 ⟨y_m7608, y_m7609, y_m7610, y_m7611, y_m7613, y_m7614, y_m7615, y_m7616, y_m7618, y_m7619, y_m7620, y_m7622, y_m7623, y_m7624, y_m7625, y_m7626, hy10313, CG10313, LG10313, hlg10313, L, hLe10313, b7607, b7612, b7617, n_m7618, am7618, pm7618, cm7618, Fm7618, b7621, n_m7622, am7622, pm7622, cm7622, Fm7622, n_m7625, am7625, pm7625, cm7625, Fm7625, n_m7626, am7626, pm7626, cm7626, Fm7626, he10313, h10313, hm7618, hm7622, hm7625, hm7626⟩
      obtain ⟨ev10313, rfl⟩ := he10313.open
      replace hR := hR07627 y_m7608 y_m7609 y_m7610 y_m7611 y_m7613 y_m7614 y_m7615 y_m7616 y_m7618 y_m7619 y_m7620 y_m7622 y_m7623 y_m7624 y_m7625 y_m7626 hy10313
      obtain ⟨m7608, e_m7608⟩ : ∃ z, z = y_m7608 := ⟨_, rfl⟩; subst e_m7608
      obtain ⟨m7609, e_m7609⟩ : ∃ z, z = y_m7609 := ⟨_, rfl⟩; subst e_m7609
      obtain ⟨m7610, e_m7610⟩ : ∃ z, z = y_m7610 := ⟨_, rfl⟩; subst e_m7610
      obtain ⟨m7611, e_m7611⟩ : ∃ z, z = y_m7611 := ⟨_, rfl⟩; subst e_m7611
      obtain ⟨m7613, e_m7613⟩ : ∃ z, z = y_m7613 := ⟨_, rfl⟩; subst e_m7613
      obtain ⟨m7614, e_m7614⟩ : ∃ z, z = y_m7614 := ⟨_, rfl⟩; subst e_m7614
      obtain ⟨m7615, e_m7615⟩ : ∃ z, z = y_m7615 := ⟨_, rfl⟩; subst e_m7615
      obtain ⟨m7616, e_m7616⟩ : ∃ z, z = y_m7616 := ⟨_, rfl⟩; subst e_m7616
      obtain ⟨m7618, e_m7618⟩ : ∃ z, z = y_m7618 := ⟨_, rfl⟩; subst e_m7618
      obtain ⟨m7619, e_m7619⟩ : ∃ z, z = y_m7619 := ⟨_, rfl⟩; subst e_m7619
      obtain ⟨m7620, e_m7620⟩ : ∃ z, z = y_m7620 := ⟨_, rfl⟩; subst e_m7620
      obtain ⟨m7622, e_m7622⟩ : ∃ z, z = y_m7622 := ⟨_, rfl⟩; subst e_m7622
      obtain ⟨m7623, e_m7623⟩ : ∃ z, z = y_m7623 := ⟨_, rfl⟩; subst e_m7623
      obtain ⟨m7624, e_m7624⟩ : ∃ z, z = y_m7624 := ⟨_, rfl⟩; subst e_m7624
      obtain ⟨m7625, e_m7625⟩ : ∃ z, z = y_m7625 := ⟨_, rfl⟩; subst e_m7625
      obtain ⟨m7626, e_m7626⟩ : ∃ z, z = y_m7626 := ⟨_, rfl⟩; subst e_m7626
      obtain rfl : List.length (α := (Nat → BitVec 8)) m7618 = n_m7618 := hm7618.hl
      obtain rfl : List.length (α := (Nat → BitVec 8)) m7622 = n_m7622 := hm7622.hl
      obtain rfl : List.length (α := (List Byte)) m7625 = n_m7625 := hm7625.hl
      obtain rfl : List.length (α := (List Byte)) m7626 = n_m7626 := hm7626.hl
      have hL10313 := hLe10313.trans hlg10313
      replace hFr : Fr2 _ _ L L := hFr.step hL10313 hL10313
      replace hFj7627 : Fr2 _ _ L L := hFj7627.step hL10313 hL10313
      refine k2103 _ _ ?_; clear k2103
      refine W.seq_k fun _ k10315 => W.regionT [(0, true), (1, false), (2, true), (3, false), (4, true), (5, true), (6, true), (7, false), (8, true), (9, true), (10, true), (11, true), (12, true), (13, false), (14, true), (15, true)] (by kernel_rfl) ?_
      refine Plan.move_ptr rfl rfl ?_
      refine Plan.makeO (len := 17) (c := 17) h10313 FAesExact.el28 rfl rfl rfl (by omega) (by omega) (fun _ => EffO.keep PIn.nil) fun b10316 w10316 hb10316 ho10316 h10316 => ?_
      refine Plan.buildP (ps := [(1, fun _ => VN 6), (1, fun _ => VN 0), (1, fun _ => VU .u8 (0#8)), (1, fun _ => VU .u8 (0#8)), (1, fun _ => VU .u64 (0#64)), (16, fun q => VU .u8 ((fun _ => 0#8) q)), (1, fun _ => .slice (some ⟨b10316, 0, none⟩) ((List.replicate 17 0#8).length) 17)]) FAesExact.pl56 (by decide) FAesExact.z56 rfl rfl (.one [] [(1, fun _ => VN 0), (1, fun _ => VU .u8 (0#8)), (1, fun _ => VU .u8 (0#8)), (1, fun _ => VU .u64 (0#64)), (16, fun q => VU .u8 ((fun _ => 0#8) q)), (1, fun _ => .slice none 0 0)] (fun _ => VN 0) rfl rfl (.one [(1, fun _ => VN 6), (1, fun _ => VN 0), (1, fun _ => VU .u8 (0#8)), (1, fun _ => VU .u8 (0#8)), (1, fun _ => VU .u64 (0#64)), (16, fun q => VU .u8 ((fun _ => 0#8) q))] [] (fun _ => .slice none 0 0) rfl rfl .nil)) ?_
      have hFj10440 : Fr2 L L L L := Fr2.refl _ _
      obtain ⟨script10441, m10442, m10443, hX10440, hR010440⟩ := hR
      refine Plan.call (vs := [.pointer (some ⟨b4, 0, none⟩), AG [(1, fun _ => VN 6), (1, fun _ => VN 0), (1, fun _ => VU .u8 (0#8)), (1, fun _ => VU .u8 (0#8)), (1, fun _ => VU .u64 (0#64)), (16, fun q => VU .u8 ((fun _ => 0#8) q)), (1, fun _ => .slice (some ⟨b10316, 0, none⟩) ((List.replicate 17 0#8).length) 17)]]) (R := fun e w => ∃ y_script10441 : Bool, ∃ y_m10442 : List (List Byte), ∃ y_m10443 : List (List Byte), (script10441 = y_script10441 ∧ m10442 = y_m10442 ∧ m10443 = y_m10443) ∧ ∃ CG LG : List Rg, LG = CG ++ L ∧ ∃ L : List Rg, L = LG ∧ ∃ n_m10442 : Nat, ∃ am10442 : Option Addr, ∃ pm10442 : Option Nat, ∃ cm10442 : Nat, ∃ Fm10442 : Nat → Value, ∃ n_m10443 : Nat, ∃ am10443 : Option Addr, ∃ pm10443 : Option Nat, ∃ cm10443 : Nat, ∃ Fm10443 : Nat → Value, e = .returned (.bool y_script10441) ∧ St B w0 (⟨pm10442, 0, cm10442 * 1, Fm10442, true⟩ :: ⟨pm10443, 0, cm10443 * 1, Fm10443, true⟩ :: ⟨some b4, 4, 1, fun _ => .slice am10442 n_m10442 cm10442, true⟩ :: ⟨some b4, 5, 1, fun _ => .slice am10443 n_m10443 cm10443, true⟩ :: ⟨some b7617, 0, 1, fun _ => .slice am7618 m7618.length cm7618, true⟩ :: ⟨some b7617, 1, 256, fun q => VU .u8 (m7619 q), true⟩ :: ⟨some b7617, 257, 256, fun q => VU .u8 (m7620 q), true⟩ :: ⟨some b7607, 0, 240, fun q => VU .u8 (m7608 q), true⟩ :: ⟨some b7607, 240, 256, fun q => VU .u8 (m7609 q), true⟩ :: ⟨some b7607, 496, 256, fun q => VU .u8 (m7610 q), true⟩ :: ⟨some b7607, 752, 256, fun q => VU .u8 (m7611 q), true⟩ :: ⟨some b7612, 0, 240, fun q => VU .u8 (m7613 q), true⟩ :: ⟨some b7612, 240, 256, fun q => VU .u8 (m7614 q), true⟩ :: ⟨some b7612, 496, 256, fun q => VU .u8 (m7615 q), true⟩ :: ⟨some b7612, 752, 256, fun q => VU .u8 (m7616 q), true⟩ :: ⟨pm7618, 0, cm7618 * 4, Fm7618, true⟩ :: ⟨pm7622, 0, cm7622 * 4, Fm7622, true⟩ :: ⟨some b7621, 0, 1, fun _ => .slice am7622 m7622.length cm7622, true⟩ :: ⟨some b7621, 1, 256, fun q => VU .u8 (m7623 q), true⟩ :: ⟨some b7621, 257, 256, fun q => VU .u8 (m7624 q), true⟩ :: ⟨some b4, 0, 1, fun _ => .pointer (some ⟨b7607, 0, none⟩), true⟩ :: ⟨some b4, 1, 1, fun _ => .pointer (some ⟨b7612, 0, none⟩), true⟩ :: ⟨some b4, 2, 1, fun _ => .pointer (some ⟨b7617, 0, none⟩), true⟩ :: ⟨some b4, 3, 1, fun _ => .pointer (some ⟨b7621, 0, none⟩), true⟩ :: L) w ∧ LO (D28.at L) [] am10442 pm10442 n_m10442 cm10442 Fm10442 y_m10442 ∧ LO (D28.at L) [] am10443 pm10443 n_m10443 cm10443 Fm10443 y_m10443) rfl FAesExact.call21 rfl ?_ ?_
      ·
       replace hR := hX10440
       refine W.enter 185 Try.func21 rfl rfl rfl ?_
       refine W.seq_k fun _ k10444 => W.regionT [(0, false), (1, true)] (by kernel_rfl) ?_
       refine Plan.boxA h10316 rfl rfl PIn.nil fun b10445 w10445 hb10445 h10445 => ?_
       simp only [rngs, Nat.zero_add, Nat.reduceAdd, zca, zna] at h10445
       refine Plan.assign_bool rfl rfl <| Plan.nil (k10444 _ _ ?_); clear k10444
       refine W.seq_k fun _ k10446 => W.regionT [(0, true), (1, true), (2, true), (3, true)] (by kernel_rfl) ?_
       refine Plan.fieldAddr 1 FAesExact.fld56_1 rfl rfl <| Plan.load0 h10445 1 rfl rfl rfl (by omega) FAesExact.sc3 <| Plan.andN (a := 0) (b := 1) rfl rfl rfl (by omega) <| Plan.assign_int rfl rfl <| Plan.nil (k10446 _ _ ?_); clear k10446
       refine W.seq_k fun _ k10447 => W.regionT [(0, true), (1, true), (2, false), (3, true)] (by kernel_rfl) ?_
       refine Plan.fieldAddr 21 FAesExact.fld56_6 rfl rfl <| Plan.load0 h10445 6 rfl rfl rfl (by omega) FAesExact.sc28 ?_
       obtain ⟨x_10449, hr10448, hR⟩ := hR
       refine Plan.call (vs := [.slice (some ⟨b10316, 0, none⟩) ((List.replicate 17 0#8).length) 17]) rfl FAesExact.call27 rfl (lethelaw04_Room_ok (by exact (ho10316.bx 7 rfl)) hr10448 h10445) ?_
       rintro _ w10455 ⟨ay0_10450, py0_10451, ny0_10452, cy0_10453, Fy0_10454, rfl, h10455, hf10455_0⟩
       obtain rfl := hf10455_0.hl
       refine ⟨_, rfl, .inr ⟨rfl, ?_⟩⟩
       refine Plan.assign_slice rfl rfl <| Plan.nil (k10447 _ _ ?_); clear k10447
       refine W.seq_k fun _ k10456 => W.regionT [(0, true), (1, true), (2, true), (3, true), (4, true), (5, true)] (by kernel_rfl) ?_
       refine Plan.move_slice rfl rfl <| Plan.fieldAddr 21 FAesExact.fld56_6 rfl rfl <| Plan.load0 h10455 7 rfl rfl rfl (by omega) FAesExact.sc28 <| Plan.len FAesExact.isl28 rfl rfl ?_
       rw [List.length_replicate (n := 17) (a := (0#8 : Byte))]
       have hrl10457 := ho10316; rw [List.length_replicate (n := 17) (a := (0#8 : Byte))] at hrl10457
       obtain ⟨hc10458, hR⟩ := hR
       have hm10459 := hf10455_0.hc
       refine Plan.slSl (lo := 0) (hi := 17) FAesExact.sl28 rfl rfl rfl ⟨_, rfl⟩ (by omega) <| Plan.assign_slice rfl rfl <| Plan.nil (k10456 _ _ ?_); clear k10456
       refine W.seq_k fun _ k10460 => W.regionT [(0, true)] (by kernel_rfl) ?_
       refine Plan.assign_bool rfl rfl <| Plan.nil (k10460 _ _ ?_); clear k10460
       refine W.seq_k fun _ k10461 => W.seq_k fun _ k10512 => ?_
       refine W.regionT [(0, true), (1, true)] (by kernel_rfl) ?_
       refine Plan.fieldAddr0 FAesExact.fld56_0 rfl rfl <| Plan.load0 h10455 1 rfl rfl rfl (by omega) FAesExact.sc3 <| Plan.nil (k10512 _ _ ?_); clear k10512
       refine W.block ?_
       refine W.seq_k fun _ k10513 => W.regionT [(0, true), (1, true)] (by kernel_rfl) ?_
       refine Plan.cmpP (a := (6 : Int)) (b := (1 : Int)) (p := (6 : Nat) = 1) rfl rfl rfl rfl icmp_eqN <| Plan.assign_bool rfl rfl <| Plan.nil (k10513 _ _ ?_); clear k10513
       refine W.condF rfl ?_
       refine W.seq_k fun _ k10514 => W.regionT [(0, true), (1, true)] (by kernel_rfl) ?_
       refine Plan.cmpP (a := (6 : Int)) (b := (2 : Int)) (p := (6 : Nat) = 2) rfl rfl rfl rfl icmp_eqN <| Plan.assign_bool rfl rfl <| Plan.nil (k10514 _ _ ?_); clear k10514
       refine W.condF rfl ?_
       refine W.seq_k fun _ k10515 => W.regionT [(0, true), (1, true)] (by kernel_rfl) ?_
       refine Plan.cmpP (a := (6 : Int)) (b := (3 : Int)) (p := (6 : Nat) = 3) rfl rfl rfl rfl icmp_eqN <| Plan.assign_bool rfl rfl <| Plan.nil (k10515 _ _ ?_); clear k10515
       refine W.condF rfl ?_
       refine W.seq_k fun _ k10516 => W.regionT [(0, true), (1, true)] (by kernel_rfl) ?_
       refine Plan.cmpP (a := (6 : Int)) (b := (4 : Int)) (p := (6 : Nat) = 4) rfl rfl rfl rfl icmp_eqN <| Plan.assign_bool rfl rfl <| Plan.nil (k10516 _ _ ?_); clear k10516
       refine W.condF rfl ?_
       refine W.seq_k fun _ k10517 => W.regionT [(0, true), (1, true)] (by kernel_rfl) ?_
       refine Plan.cmpP (a := (6 : Int)) (b := (5 : Int)) (p := (6 : Nat) = 5) rfl rfl rfl rfl icmp_eqN <| Plan.assign_bool rfl rfl <| Plan.nil (k10517 _ _ ?_); clear k10517
       refine W.condF rfl ?_
       refine W.seq_k fun _ k10518 => W.regionT [(0, true), (1, true)] (by kernel_rfl) ?_
       refine Plan.cmpP (a := (6 : Int)) (b := (6 : Int)) (p := (6 : Nat) = 6) rfl rfl rfl rfl icmp_eqN <| Plan.assign_bool rfl rfl <| Plan.nil (k10518 _ _ ?_); clear k10518
       refine W.condT rfl ?_
       refine W.seq_k fun _ k10519 => ?_
       refine W.regionD FAesExact.mixed [(0, true), (1, true), (2, true), (3, true), (4, true), (5, true), (6, true), (7, true), (8, true), (9, false), (10, true)] (by kernel_rfl) ?_
       have h10520 := h10455.drew
       refine Plan.move_ptr rfl rfl <| Plan.move_int rfl rfl <| Plan.nilCheck rfl rfl <| Plan.fieldAddr0 FAesExact.fld53_0 rfl rfl <| Plan.idxArrO (j := 0) (o' := 0) FAesExact.arr46 rfl rfl rfl (by omega) rfl <| Plan.load0 h10520 27 rfl rfl rfl (by omega) FAesExact.sc30 <| Plan.fieldAddr 5 FAesExact.fld56_5 rfl rfl <| Plan.loadA1 h10520 6 rfl rfl rfl FAesExact.agg27 ?_
       refine Plan.move_slice rfl rfl ?_
       have h10521 := St.pickT (C := [_, _, _, _, _, _, _, _, _, _, _, _, _, _, _, _, _, _, _, _, _, _, _, _, _, _, _, _, _, _, _, _, _]) h10520 [9, 10, 11, 12, 0, 1, 2, 3, 4, 5, 6, 7, 8, 13, 14, 15, 16, 17, 18, 19, 20, 21, 22, 23, 24, 25, 26, 27, 28, 29, 30, 31, 32] (by decide)
       simp only [pick, zfc, zfn, zgz, zgs, zca, zna] at h10521
       obtain ⟨x_10523, hr10522, hR⟩ := hR
       refine Plan.call (vs := [.pointer (some ⟨b7607, 0, none⟩), AG [(16, fun q => VU .u8 ((fun _ => 0#8) q))], .slice (if cy0_10453 = 0 then (ay0_10450 : Option Addr) else (ay0_10450 : Option Addr).map (·.add (0 * 1))) (17 - 0) (cy0_10453 - 0)]) rfl FAesExact.call13 rfl (aes_Cipher_Stream_ok (by exact ((hf10455_0.bx 0 rfl).seg (lo := 0) (hi := 17) hc10458)) hr10522 h10521) ?_
       rintro _ w10529 ⟨ay0_10524, py0_10525, ny0_10526, cy0_10527, Fy0_10528, rfl, h10529, hf10529_0⟩
       obtain rfl := hf10529_0.hl
       refine ⟨_, rfl, .inr ⟨rfl, ?_⟩⟩
       refine Plan.assign_slice rfl rfl <| Plan.nil (k10519 _ _ ?_); clear k10519
       refine W.seq_k fun _ k10530 => ?_
       refine W.regionD FAesExact.mixed [(0, true), (1, true), (2, true), (3, true), (4, true), (5, true), (6, true), (7, true), (8, true), (9, true), (10, true), (11, false), (12, false), (13, true)] (by kernel_rfl) ?_
       have h10531 := h10529.drew
       refine Plan.move_slice rfl rfl <| Plan.move_ptr rfl rfl <| Plan.move_int rfl rfl <| Plan.nilCheck rfl rfl <| Plan.fieldAddr 2 FAesExact.fld53_1 rfl rfl <| Plan.idxArrO (j := 0) (o' := 2) FAesExact.arr48 rfl rfl rfl (by omega) rfl <| Plan.load0 h10531 30 rfl rfl rfl (by omega) FAesExact.sc47 <| Plan.fieldAddr 5 FAesExact.fld56_5 rfl rfl ?_
       refine Plan.loadA1 h10531 11 rfl rfl rfl FAesExact.agg27 <| Plan.fieldAddr 21 FAesExact.fld56_6 rfl rfl <| Plan.load0 h10531 12 rfl rfl rfl (by omega) FAesExact.sc28 ?_
       have h10532 := St.pickT (C := [_, _, _, _, _, _, _, _, _, _, _, _, _, _, _, _, _, _, _, _, _, _, _, _, _, _, _, _, _, _, _, _, _, _]) h10531 [19, 20, 21, 0, 1, 2, 3, 4, 5, 6, 7, 8, 9, 10, 11, 12, 13, 14, 15, 16, 17, 18, 22, 23, 24, 25, 26, 27, 28, 29, 30, 31, 32, 33] (by decide)
       simp only [pick, zfc, zfn, zgz, zgs, zca, zna] at h10532
       obtain ⟨x_10534, hr10533, hR⟩ := hR
       refine Plan.call (vs := [.pointer (some ⟨b7617, 0, none⟩), AG [(16, fun q => VU .u8 ((fun _ => 0#8) q))], .slice (some ⟨b10316, 0, none⟩) 17 17]) rfl FAesExact.call36 rfl (letheref04_Cipher_Hide_ok (by exact (LO.lvf D76_flat hm7618 18 rfl)) (by exact (hrl10457.bx 13 rfl)) hr10533 h10532) ?_
       rintro _ w10540 ⟨ay0_10535, py0_10536, ny0_10537, cy0_10538, Fy0_10539, rfl, h10540, hf10540_0⟩
       obtain rfl := hf10540_0.hl
       refine ⟨_, rfl, .inr ⟨rfl, ?_⟩⟩
       obtain ⟨x_10542, hr10541, hR⟩ := hR
       refine Plan.call (vs := [.slice ay0_10524 x_10523.length cy0_10527, .slice ay0_10535 x_10534.length cy0_10538]) rfl FAesExact.call14 rfl (lethelaw04_Eq_ok (by exact (hf10529_0.bx 4 rfl)) (by exact (hf10540_0.bx 0 rfl)) hr10541 h10540) ?_
       rintro _ w10543 ⟨rfl, h10543⟩
       refine ⟨_, rfl, .inl ⟨PIn.keep PIn.nil h10543, ?_⟩⟩
       refine Plan.assign_bool rfl rfl <| Plan.nil (k10530 _ _ ?_); clear k10530
       refine W.regionT [(0, true), (1, true), (2, true), (3, true), (4, false)] (by kernel_rfl) ?_
       refine Plan.move_ptr rfl rfl <| Plan.nilCheck rfl rfl <| Plan.fieldAddr 4 FAesExact.fld53_2 rfl rfl <| Plan.move_slice rfl rfl ?_
       have h10544 := St.pickT (C := [_, _, _, _, _, _, _, _, _, _, _, _, _, _, _, _, _, _, _, _, _, _, _, _, _, _, _, _, _, _, _, _, _, _, _]) h10543 [33, 27, 34, 28, 4, 0, 1, 2, 3, 5, 6, 7, 8, 9, 10, 11, 12, 13, 14, 15, 16, 17, 18, 19, 20, 21, 22, 23, 24, 25, 26, 29, 30, 31, 32] (by decide)
       simp only [pick, zfc, zfn, zgz, zgs, zca, zna] at h10544
       obtain ⟨x_10546, x_10547, hr10545, hR⟩ := hR
       refine Plan.call (vs := [.pointer (some ⟨b4, 4, none⟩), .slice ay0_10524 x_10523.length cy0_10527]) rfl FAesExact.call37 rfl (lethelaw04_Book_Note_at4_ok (LP := L) (by exact fun r hr => List.mem_append_right [_, _, _, _, _, _, _, _, _, _, _, _, _, _, _, _, _, _, _, _, _, _, _, _, _, _, _, _, _, _] ((fun _ h => h) r hr)) (by exact LO.grow D28_lifts (fun r hr => hr) hm7625) (by exact LO.grow D28_lifts (fun r hr => hr) hm7626) (by exact hf10529_0) hr10545 h10544) ?_
       rintro _ w10558 ⟨C10558, aqbLists2_10548, pqbLists2_10549, nqbLists2_10550, cqbLists2_10551, FqbLists2_10552, aqbWant3_10553, pqbWant3_10554, nqbWant3_10555, cqbWant3_10556, FqbWant3_10557, rfl, h10558, hf10558_0, hf10558_1⟩
       try dsimp only at hf10558_0 hf10558_1
       obtain rfl := hf10558_0.hl
       obtain rfl := hf10558_1.hl
       replace h10558 := St.pool (N := [_, _, _, _]) (R := [_, _, _, _, _, _, _, _, _, _, _, _, _, _, _, _, _, _, _, _, _, _, _, _, _, _, _, _, _, _]) h10558
       obtain ⟨L, hL10559⟩ : ∃ X, X = C10558 ++ L := ⟨_, rfl⟩
       have h10559 := St.re (N := [_, _, _, _, _, _, _, _, _, _, _, _, _, _, _, _, _, _, _, _, _, _, _, _, _, _, _, _, _, _, _, _, _, _]) hL10559 h10558
       simp only [zca, zna] at h10559
       replace hFr : Fr2 _ _ L L := hFr.step hL10559 hL10559
       replace hFj7627 : Fr2 _ _ L L := hFj7627.step hL10559 hL10559
       replace hFj10440 : Fr2 _ _ L L := hFj10440.step hL10559 hL10559
       have ho10560 : LO (D28.at L) [] aqbLists2_10548 pqbLists2_10549 (x_10546).length cqbLists2_10551 FqbLists2_10552 x_10546 := LO.grow D28_lifts (fun r hr => (by rw [hL10559]; exact hr)) hf10558_0
       have ho10561 : LO (D28.at L) [] aqbWant3_10553 pqbWant3_10554 (x_10547).length cqbWant3_10556 FqbWant3_10557 x_10547 := LO.grow D28_lifts (fun r hr => (by rw [hL10559]; exact hr)) hf10558_1
       refine ⟨_, rfl, .inl ⟨PIn.keep PIn.nil h10559, ?_⟩⟩
       refine Plan.nil ?_
       refine blockR_norm ?_
       refine k10461 _ _ ?_; clear k10461
       refine W.seq_k fun _ k10562 => W.regionT [(0, true), (1, true), (2, true), (3, true), (4, true), (5, false), (6, true), (7, true)] (by kernel_rfl) ?_
       by_cases hc10563 : x_10542 = true
       ·
        replace hR := ifT hR hc10563
        refine Plan.move_bool (b := true) rfl (congrArg Value.bool hc10563) <| Plan.move_bool rfl rfl <| Plan.move_slice rfl rfl <| Plan.fieldAddr 21 FAesExact.fld56_6 rfl rfl <| Plan.load0 h10559 19 rfl rfl rfl (by omega) FAesExact.sc28 ?_
        obtain ⟨x_10565, hr10564, hR⟩ := hR
        refine Plan.call (vs := [.slice ay0_10450 x_10449.length cy0_10453, .slice (some ⟨b10316, 0, none⟩) 17 17]) rfl FAesExact.call33 rfl (lethelaw04_Kept_ok (by exact (hf10455_0.bx 12 rfl)) (by exact (hrl10457.bx 20 rfl)) hr10564 h10559) ?_
        rintro _ w10566 ⟨rfl, h10566⟩
        refine ⟨_, rfl, .inr ⟨rfl, ?_⟩⟩
        refine Plan.pickTb rfl rfl rfl <| Plan.assign_bool rfl rfl <| Plan.nil (k10562 _ _ ?_); clear k10562
        refine W.ret (finR_ret ?_)
        have h10567 := St.pickT (C := [_, _, _, _, _, _, _, _, _, _, _, _, _, _, _, _, _, _, _, _, _, _, _, _, _, _, _, _, _, _, _, _, _, _]) h10566 [1, 3, 0, 2, 5, 6, 7, 8, 9, 10, 11, 21, 22, 23, 24, 25, 26, 27, 28, 29, 30, 31, 32, 33] (by decide)
        simp only [pick, zfc, zfn, zgz, zgs, zca, zna] at h10567
        obtain ⟨CF10568, hx10568, hy10568⟩ := hFj10440
        refine RetOk.mk (.tmp_bool rfl .nil) ?_
        exact ⟨x_10565, x_10546, x_10547, hR, CF10568, L, hx10568, L, rfl, x_10546.length, aqbLists2_10548, pqbLists2_10549, cqbLists2_10551, FqbLists2_10552, x_10547.length, aqbWant3_10553, pqbWant3_10554, cqbWant3_10556, FqbWant3_10557, rfl, h10567, ho10560, ho10561⟩
       ·
        replace hR := ifF hR hc10563
        refine Plan.move_bool (b := false) rfl (congrArg Value.bool (Bool.eq_false_iff.2 hc10563)) <| Plan.move_bool rfl rfl <| Plan.passed rfl <| Plan.passed rfl <| Plan.passed rfl <| Plan.passed rfl <| Plan.pickFb rfl rfl rfl <| Plan.assign_bool rfl rfl ?_
        refine Plan.nil (k10562 _ _ ?_); clear k10562
        refine W.ret (finR_ret ?_)
        have h10569 := St.pickT (C := [_, _, _, _, _, _, _, _, _, _, _, _, _, _, _, _, _, _, _, _, _, _, _, _, _, _, _, _, _, _, _, _, _, _]) h10559 [1, 3, 0, 2, 5, 6, 7, 8, 9, 10, 11, 21, 22, 23, 24, 25, 26, 27, 28, 29, 30, 31, 32, 33] (by decide)
        simp only [pick, zfc, zfn, zgz, zgs, zca, zna] at h10569
        obtain ⟨CF10570, hx10570, hy10570⟩ := hFj10440
        refine RetOk.mk (.tmp_bool rfl .nil) ?_
        exact ⟨false, x_10546, x_10547, hR, CF10570, L, hx10570, L, rfl, x_10546.length, aqbLists2_10548, pqbLists2_10549, cqbLists2_10551, FqbLists2_10552, x_10547.length, aqbWant3_10553, pqbWant3_10554, cqbWant3_10556, FqbWant3_10557, rfl, h10569, ho10560, ho10561⟩
      ·
       rintro _ w10571 ⟨y_script10441, y_m10442, y_m10443, ⟨hy10571_0, hy10571_1, hy10571_2⟩, CG10571, LG10571, hlg10571, L, hLe10571, n_m10442, am10442, pm10442, cm10442, Fm10442, n_m10443, am10443, pm10443, cm10443, Fm10443, rfl, h10571, hm10442, hm10443⟩
       subst hy10571_0
       subst hy10571_1
       subst hy10571_2
       obtain rfl : List.length (α := (List Byte)) m10442 = n_m10442 := hm10442.hl
       obtain rfl : List.length (α := (List Byte)) m10443 = n_m10443 := hm10443.hl
       replace hR := hR010440
       refine ⟨_, rfl, .inl ⟨PIn.keep PIn.nil h10571, ?_⟩⟩
       have hL10571 := hLe10571.trans hlg10571
       replace hFr : Fr2 _ _ L L := hFr.step hL10571 hL10571
       replace hFj7627 : Fr2 _ _ L L := hFj7627.step hL10571 hL10571
       replace hFj10440 : Fr2 _ _ L L := hFj10440.step hL10571 hL10571
       by_cases hc10573 : script10441 = true
       ·
        replace hR := ifT hR hc10573
        obtain rfl : script10441 = true := hc10573
        refine Plan.move_bool rfl rfl <| Plan.move_ptr rfl rfl ?_
        refine Plan.buildP (ps := [(1, fun _ => VN 5), (1, fun _ => VN 1), (1, fun _ => VU .u8 (0#8)), (1, fun _ => VU .u8 (0#8)), (1, fun _ => VU .u64 (0#64)), (16, fun q => VU .u8 ((fun _ => 0#8) q)), (1, fun _ => .slice none 0 0)]) FAesExact.pl56 (by decide) FAesExact.z56 rfl rfl (.one [] [(1, fun _ => VN 0), (1, fun _ => VU .u8 (0#8)), (1, fun _ => VU .u8 (0#8)), (1, fun _ => VU .u64 (0#64)), (16, fun q => VU .u8 ((fun _ => 0#8) q)), (1, fun _ => .slice none 0 0)] (fun _ => VN 0) rfl rfl (.one [(1, fun _ => VN 5)] [(1, fun _ => VU .u8 (0#8)), (1, fun _ => VU .u8 (0#8)), (1, fun _ => VU .u64 (0#64)), (16, fun q => VU .u8 ((fun _ => 0#8) q)), (1, fun _ => .slice none 0 0)] (fun _ => VN 0) rfl rfl .nil)) ?_
        obtain ⟨script10627, hX10626, hR010626⟩ := hR
        refine Plan.call (vs := [.pointer (some ⟨b4, 0, none⟩), AG [(1, fun _ => VN 5), (1, fun _ => VN 1), (1, fun _ => VU .u8 (0#8)), (1, fun _ => VU .u8 (0#8)), (1, fun _ => VU .u64 (0#64)), (16, fun q => VU .u8 ((fun _ => 0#8) q)), (1, fun _ => .slice none 0 0)]]) (R := fun e w => ∃ y_script10627 : Bool, (script10627 = y_script10627) ∧ e = .returned (.bool y_script10627) ∧ St B w0 (⟨some b7621, 0, 1, fun _ => .slice am7622 m7622.length cm7622, true⟩ :: ⟨some b7621, 1, 256, fun q => VU .u8 (m7623 q), true⟩ :: ⟨some b7621, 257, 256, fun q => VU .u8 (m7624 q), true⟩ :: ⟨some b7612, 0, 240, fun q => VU .u8 (m7613 q), true⟩ :: ⟨some b7612, 240, 256, fun q => VU .u8 (m7614 q), true⟩ :: ⟨some b7612, 496, 256, fun q => VU .u8 (m7615 q), true⟩ :: ⟨some b7612, 752, 256, fun q => VU .u8 (m7616 q), true⟩ :: ⟨pm10442, 0, cm10442 * 1, Fm10442, true⟩ :: ⟨pm10443, 0, cm10443 * 1, Fm10443, true⟩ :: ⟨some b4, 4, 1, fun _ => .slice am10442 m10442.length cm10442, true⟩ :: ⟨some b4, 5, 1, fun _ => .slice am10443 m10443.length cm10443, true⟩ :: ⟨some b7617, 0, 1, fun _ => .slice am7618 m7618.length cm7618, true⟩ :: ⟨some b7617, 1, 256, fun q => VU .u8 (m7619 q), true⟩ :: ⟨some b7617, 257, 256, fun q => VU .u8 (m7620 q), true⟩ :: ⟨some b7607, 0, 240, fun q => VU .u8 (m7608 q), true⟩ :: ⟨some b7607, 240, 256, fun q => VU .u8 (m7609 q), true⟩ :: ⟨some b7607, 496, 256, fun q => VU .u8 (m7610 q), true⟩ :: ⟨some b7607, 752, 256, fun q => VU .u8 (m7611 q), true⟩ :: ⟨pm7618, 0, cm7618 * 4, Fm7618, true⟩ :: ⟨pm7622, 0, cm7622 * 4, Fm7622, true⟩ :: ⟨some b4, 0, 1, fun _ => .pointer (some ⟨b7607, 0, none⟩), true⟩ :: ⟨some b4, 1, 1, fun _ => .pointer (some ⟨b7612, 0, none⟩), true⟩ :: ⟨some b4, 2, 1, fun _ => .pointer (some ⟨b7617, 0, none⟩), true⟩ :: ⟨some b4, 3, 1, fun _ => .pointer (some ⟨b7621, 0, none⟩), true⟩ :: L) w) rfl FAesExact.call21 rfl ?_ ?_
        ·
         replace hR := hX10626
         refine W.enter 185 Try.func21 rfl rfl rfl ?_
         refine W.seq_k fun _ k10628 => W.regionT [(0, false), (1, true)] (by kernel_rfl) ?_
         refine Plan.boxA h10571 rfl rfl PIn.nil fun b10629 w10629 hb10629 h10629 => ?_
         simp only [rngs, Nat.zero_add, Nat.reduceAdd, zca, zna] at h10629
         refine Plan.assign_bool rfl rfl <| Plan.nil (k10628 _ _ ?_); clear k10628
         refine W.seq_k fun _ k10630 => W.regionT [(0, true), (1, true), (2, true), (3, true)] (by kernel_rfl) ?_
         refine Plan.fieldAddr 1 FAesExact.fld56_1 rfl rfl <| Plan.load0 h10629 1 rfl rfl rfl (by omega) FAesExact.sc3 <| Plan.andN (a := 1) (b := 1) rfl rfl rfl (by omega) <| Plan.assign_int rfl rfl <| Plan.nil (k10630 _ _ ?_); clear k10630
         refine W.seq_k fun _ k10631 => W.regionT [(0, true), (1, true), (2, false), (3, true)] (by kernel_rfl) ?_
         refine Plan.fieldAddr 21 FAesExact.fld56_6 rfl rfl <| Plan.load0 h10629 6 rfl rfl rfl (by omega) FAesExact.sc28 ?_
         obtain ⟨x_10633, hr10632, hR⟩ := hR
         refine Plan.call (vs := [.slice none 0 0]) rfl FAesExact.call27 rfl (lethelaw04_Room_ok (by exact (Bx.nil 0)) hr10632 h10629) ?_
         rintro _ w10639 ⟨ay0_10634, py0_10635, ny0_10636, cy0_10637, Fy0_10638, rfl, h10639, hf10639_0⟩
         obtain rfl := hf10639_0.hl
         refine ⟨_, rfl, .inr ⟨rfl, ?_⟩⟩
         refine Plan.assign_slice rfl rfl <| Plan.nil (k10631 _ _ ?_); clear k10631
         refine W.seq_k fun _ k10640 => W.regionT [(0, true), (1, true), (2, true), (3, true), (4, true), (5, true)] (by kernel_rfl) ?_
         refine Plan.move_slice rfl rfl <| Plan.fieldAddr 21 FAesExact.fld56_6 rfl rfl <| Plan.load0 h10639 7 rfl rfl rfl (by omega) FAesExact.sc28 <| Plan.len FAesExact.isl28 rfl rfl ?_
         obtain ⟨hc10641, hR⟩ := hR
         have hm10642 := hf10639_0.hc
         refine Plan.slSl (lo := 0) (hi := 0) FAesExact.sl28 rfl rfl rfl ⟨_, rfl⟩ (by omega) <| Plan.assign_slice rfl rfl <| Plan.nil (k10640 _ _ ?_); clear k10640
         refine W.seq_k fun _ k10643 => W.regionT [(0, true)] (by kernel_rfl) ?_
         refine Plan.assign_bool rfl rfl <| Plan.nil (k10643 _ _ ?_); clear k10643
         refine W.seq_k fun _ k10644 => W.seq_k fun _ k10660 => ?_
         refine W.regionT [(0, true), (1, true)] (by kernel_rfl) ?_
         refine Plan.fieldAddr0 FAesExact.fld56_0 rfl rfl <| Plan.load0 h10639 1 rfl rfl rfl (by omega) FAesExact.sc3 <| Plan.nil (k10660 _ _ ?_); clear k10660
         refine W.block ?_
         refine W.seq_k fun _ k10661 => W.regionT [(0, true), (1, true)] (by kernel_rfl) ?_
         refine Plan.cmpP (a := (5 : Int)) (b := (1 : Int)) (p := (5 : Nat) = 1) rfl rfl rfl rfl icmp_eqN <| Plan.assign_bool rfl rfl <| Plan.nil (k10661 _ _ ?_); clear k10661
         refine W.condF rfl ?_
         refine W.seq_k fun _ k10662 => W.regionT [(0, true), (1, true)] (by kernel_rfl) ?_
         refine Plan.cmpP (a := (5 : Int)) (b := (2 : Int)) (p := (5 : Nat) = 2) rfl rfl rfl rfl icmp_eqN <| Plan.assign_bool rfl rfl <| Plan.nil (k10662 _ _ ?_); clear k10662
         refine W.condF rfl ?_
         refine W.seq_k fun _ k10663 => W.regionT [(0, true), (1, true)] (by kernel_rfl) ?_
         refine Plan.cmpP (a := (5 : Int)) (b := (3 : Int)) (p := (5 : Nat) = 3) rfl rfl rfl rfl icmp_eqN <| Plan.assign_bool rfl rfl <| Plan.nil (k10663 _ _ ?_); clear k10663
         refine W.condF rfl ?_
         refine W.seq_k fun _ k10664 => W.regionT [(0, true), (1, true)] (by kernel_rfl) ?_
         refine Plan.cmpP (a := (5 : Int)) (b := (4 : Int)) (p := (5 : Nat) = 4) rfl rfl rfl rfl icmp_eqN <| Plan.assign_bool rfl rfl <| Plan.nil (k10664 _ _ ?_); clear k10664
         refine W.condF rfl ?_
         refine W.seq_k fun _ k10665 => W.regionT [(0, true), (1, true)] (by kernel_rfl) ?_
         refine Plan.cmpP (a := (5 : Int)) (b := (5 : Int)) (p := (5 : Nat) = 5) rfl rfl rfl rfl icmp_eqN <| Plan.assign_bool rfl rfl <| Plan.nil (k10665 _ _ ?_); clear k10665
         refine W.condT rfl ?_
         refine W.regionD FAesExact.mixed [(0, true), (1, true), (2, true), (3, true), (4, true), (5, true), (6, true), (7, true), (9, true), (10, true), (11, true), (12, true), (13, true), (14, true), (15, true), (16, true), (8, false), (17, false), (18, true), (19, true)] (by kernel_rfl) ?_
         have h10666 := h10639.drew
         refine Plan.move_ptr rfl rfl <| Plan.move_int rfl rfl <| Plan.nilCheck rfl rfl <| Plan.fieldAddr0 FAesExact.fld53_0 rfl rfl <| Plan.idxArrO (j := 1) (o' := 1) FAesExact.arr46 rfl rfl rfl (by omega) rfl <| Plan.load0 h10666 29 rfl rfl rfl (by omega) FAesExact.sc30 <| Plan.fieldAddr 5 FAesExact.fld56_5 rfl rfl <| Plan.loadA1 h10666 6 rfl rfl rfl FAesExact.agg27 ?_
         refine Plan.move_ptr rfl rfl <| Plan.move_int rfl rfl <| Plan.nilCheck rfl rfl <| Plan.fieldAddr 2 FAesExact.fld53_1 rfl rfl <| Plan.idxArrO (j := 1) (o' := 3) FAesExact.arr48 rfl rfl rfl (by omega) rfl <| Plan.load0 h10666 31 rfl rfl rfl (by omega) FAesExact.sc47 <| Plan.fieldAddr 5 FAesExact.fld56_5 rfl rfl <| Plan.loadA1 h10666 6 rfl rfl rfl FAesExact.agg27 ?_
         have h10667 := St.pickT (C := [_, _, _, _, _, _, _, _, _, _, _, _, _, _, _, _, _, _, _, _, _, _, _, _, _, _, _, _, _, _, _, _]) h10666 [19, 20, 21, 22, 0, 1, 2, 3, 4, 5, 6, 7, 8, 9, 10, 11, 12, 13, 14, 15, 16, 17, 18, 23, 24, 25, 26, 27, 28, 29, 30, 31] (by decide)
         simp only [pick, zfc, zfn, zgz, zgs, zca, zna] at h10667
         obtain ⟨x_10669, hr10668, hR⟩ := hR
         refine Plan.call (vs := [.pointer (some ⟨b7612, 0, none⟩), AG [(16, fun q => VU .u8 ((fun _ => 0#8) q))]]) rfl FAesExact.call17 rfl (aes_Cipher_Decrypt_ok  hr10668 h10667) ?_
         rintro _ w10670 ⟨rfl, h10670⟩
         refine ⟨_, rfl, .inl ⟨PIn.keep (PIn.cons 10 rfl (PIn.cons 31 rfl (PIn.cons 10 rfl (PIn.cons 29 rfl PIn.nil)))) h10670, ?_⟩⟩
         have h10671 := St.pickT (C := [_, _, _, _, _, _, _, _, _, _, _, _, _, _, _, _, _, _, _, _, _, _, _, _, _, _, _, _, _, _, _, _]) h10670 [25, 26, 27, 0, 1, 2, 3, 4, 5, 6, 7, 8, 9, 10, 11, 12, 13, 14, 15, 16, 17, 18, 19, 20, 21, 22, 23, 24, 28, 29, 30, 31] (by decide)
         simp only [pick, zfc, zfn, zgz, zgs, zca, zna] at h10671
         obtain ⟨x_10673, hr10672, hR⟩ := hR
         refine Plan.call (vs := [.pointer (some ⟨b7621, 0, none⟩), AG [(16, fun q => VU .u8 ((fun _ => 0#8) q))]]) rfl FAesExact.call35 rfl (letheref04_Cipher_Decrypt_ok (by exact (LO.lvf D76_flat hm7622 24 rfl)) hr10672 h10671) ?_
         rintro _ w10674 ⟨rfl, h10674⟩
         refine ⟨_, rfl, .inl ⟨PIn.keep (PIn.cons 13 rfl (PIn.cons 31 rfl (PIn.cons 13 rfl (PIn.cons 29 rfl PIn.nil)))) h10674, ?_⟩⟩
         refine Plan.eqArrV (b := (eqB 16 x_10669 x_10673)) FAesExact.arrI27 rfl rfl rfl rfl <| Plan.assign_bool rfl rfl <| Plan.nil ?_
         refine blockR_norm ?_
         refine k10644 _ _ ?_; clear k10644
         refine W.seq_k fun _ k10675 => W.regionT [(0, true), (1, true), (2, true), (3, true), (4, true), (5, false), (6, true), (7, true)] (by kernel_rfl) ?_
         by_cases hc10676 : (eqB 16 x_10669 x_10673) = true
         ·
          replace hR := ifT hR hc10676
          refine Plan.move_bool (b := true) rfl (congrArg Value.bool hc10676) <| Plan.move_bool rfl rfl <| Plan.move_slice rfl rfl <| Plan.fieldAddr 21 FAesExact.fld56_6 rfl rfl <| Plan.load0 h10674 14 rfl rfl rfl (by omega) FAesExact.sc28 ?_
          obtain ⟨x_10678, hr10677, hR⟩ := hR
          refine Plan.call (vs := [.slice ay0_10634 x_10633.length cy0_10637, .slice none 0 0]) rfl FAesExact.call33 rfl (lethelaw04_Kept_ok (by exact (hf10639_0.bx 7 rfl)) (by exact (Bx.nil 0)) hr10677 h10674) ?_
          rintro _ w10679 ⟨rfl, h10679⟩
          refine ⟨_, rfl, .inr ⟨rfl, ?_⟩⟩
          refine Plan.pickTb rfl rfl rfl <| Plan.assign_bool rfl rfl <| Plan.nil (k10675 _ _ ?_); clear k10675
          refine W.ret (finR_ret ?_)
          have h10680 := St.pickT (C := [_, _, _, _, _, _, _, _, _, _, _, _, _, _, _, _, _, _, _, _, _, _, _, _, _, _, _, _, _, _, _, _]) h10679 [0, 1, 2, 3, 4, 5, 6, 15, 16, 17, 18, 19, 20, 21, 22, 23, 24, 25, 26, 27, 28, 29, 30, 31] (by decide)
          simp only [pick, zfc, zfn, zgz, zgs, zca, zna] at h10680
          refine RetOk.mk (.tmp_bool rfl .nil) ?_
          exact ⟨x_10678, hR, rfl, h10680⟩
         ·
          replace hR := ifF hR hc10676
          refine Plan.move_bool (b := false) rfl (congrArg Value.bool (Bool.eq_false_iff.2 hc10676)) <| Plan.move_bool rfl rfl <| Plan.passed rfl <| Plan.passed rfl <| Plan.passed rfl <| Plan.passed rfl <| Plan.pickFb rfl rfl rfl <| Plan.assign_bool rfl rfl ?_
          refine Plan.nil (k10675 _ _ ?_); clear k10675
          refine W.ret (finR_ret ?_)
          have h10681 := St.pickT (C := [_, _, _, _, _, _, _, _, _, _, _, _, _, _, _, _, _, _, _, _, _, _, _, _, _, _, _, _, _, _, _, _]) h10674 [0, 1, 2, 3, 4, 5, 6, 15, 16, 17, 18, 19, 20, 21, 22, 23, 24, 25, 26, 27, 28, 29, 30, 31] (by decide)
          simp only [pick, zfc, zfn, zgz, zgs, zca, zna] at h10681
          refine RetOk.mk (.tmp_bool rfl .nil) ?_
          exact ⟨false, hR, rfl, h10681⟩
        ·
         rintro _ w10682 ⟨y_script10627, hy10682_0, rfl, h10682⟩
         subst hy10682_0
         replace hR := hR010626
         refine ⟨_, rfl, .inl ⟨PIn.keep PIn.nil h10682, ?_⟩⟩
         by_cases hc10683 : script10627 = true
         ·
          replace hR := ifT hR hc10683
          obtain rfl : script10627 = true := hc10683
          refine Plan.pickTb rfl rfl rfl <| Plan.move_bool rfl rfl <| Plan.move_ptr rfl rfl <| Plan.nilCheck rfl rfl <| Plan.fieldAddr 4 FAesExact.fld53_2 rfl rfl ?_
          have h10684 := St.pickT (C := [_, _, _, _, _, _, _, _, _, _, _, _, _, _, _, _, _, _, _, _, _, _, _, _]) h10682 [9, 10, 0, 1, 2, 3, 4, 5, 6, 7, 8, 11, 12, 13, 14, 15, 16, 17, 18, 19, 20, 21, 22, 23] (by decide)
          simp only [pick, zfc, zfn, zgz, zgs, zca, zna] at h10684
          obtain ⟨x_10686, hr10685, hR⟩ := hR
          refine Plan.call (vs := [.pointer (some ⟨b4, 4, none⟩)]) rfl FAesExact.call22 rfl (lethelaw04_Book_Holds_at4_ok (by exact (LV.grow D28_lifts (fun r hr => List.mem_append_right [_, _, _, _, _, _, _, _, _, _, _, _, _, _, _, _, _, _, _, _, _, _] ((fun _ h => h) r hr)) (LO.lvf EL.at_flat hm10442 7 rfl))) (by exact (LV.grow D28_lifts (fun r hr => List.mem_append_right [_, _, _, _, _, _, _, _, _, _, _, _, _, _, _, _, _, _, _, _, _, _] ((fun _ h => h) r hr)) (LO.lvf EL.at_flat hm10443 8 rfl))) hr10685 h10684) ?_
          rintro _ w10687 ⟨rfl, h10687⟩
          refine ⟨_, rfl, .inl ⟨PIn.keep PIn.nil h10687, ?_⟩⟩
          refine Plan.pickTb rfl rfl rfl <| Plan.assign_bool rfl rfl <| Plan.nil (k10315 _ _ ?_); clear k10315
          refine W.ret (finR_ret ?_)
          have h10688 := St.pickT (C := [_, _, _, _, _, _, _, _, _, _, _, _, _, _, _, _, _, _, _, _, _, _, _, _]) h10687 [] (by decide)
          simp only [pick, zfc, zfn, zgz, zgs, zca, zna] at h10688
          subst r
          refine RetOk.mk (.tmp_bool rfl .nil) ?_
          obtain ⟨CF, hx1, hx2⟩ := hFr
          subst hx1
          have hdr := St.dropC (N := []) h10688
          exact ⟨rfl, hdr⟩
         ·
          replace hR := ifF hR hc10683
          obtain rfl : script10627 = false := Bool.eq_false_iff.2 hc10683
          refine Plan.pickTb rfl rfl rfl <| Plan.move_bool rfl rfl <| Plan.passed rfl <| Plan.passed rfl <| Plan.passed rfl <| Plan.passed rfl <| Plan.pickFb rfl rfl rfl <| Plan.assign_bool rfl rfl ?_
          refine Plan.nil (k10315 _ _ ?_); clear k10315
          refine W.ret (finR_ret ?_)
          have h10689 := St.pickT (C := [_, _, _, _, _, _, _, _, _, _, _, _, _, _, _, _, _, _, _, _, _, _, _, _]) h10682 [] (by decide)
          simp only [pick, zfc, zfn, zgz, zgs, zca, zna] at h10689
          subst r
          refine RetOk.mk (.tmp_bool rfl .nil) ?_
          obtain ⟨CF, hx1, hx2⟩ := hFr
          subst hx1
          have hdr := St.dropC (N := []) h10689
          exact ⟨rfl, hdr⟩
       ·
        replace hR := ifF hR hc10573
        obtain rfl : script10441 = false := Bool.eq_false_iff.2 hc10573
        refine Plan.move_bool rfl rfl <| Plan.passed rfl <| Plan.passed rfl <| Plan.passed rfl <| Plan.pickFb rfl rfl rfl <| Plan.move_bool rfl rfl <| Plan.passed rfl <| Plan.passed rfl ?_
        refine Plan.passed rfl <| Plan.passed rfl <| Plan.pickFb rfl rfl rfl <| Plan.assign_bool rfl rfl <| Plan.nil (k10315 _ _ ?_); clear k10315
        refine W.ret (finR_ret ?_)
        have h10690 := St.pickT (C := [_, _, _, _, _, _, _, _, _, _, _, _, _, _, _, _, _, _, _, _, _, _, _, _]) h10571 [] (by decide)
        simp only [pick, zfc, zfn, zgz, zgs, zca, zna] at h10690
        subst r
        refine RetOk.mk (.tmp_bool rfl .nil) ?_
        obtain ⟨CF, hx1, hx2⟩ := hFr
        subst hx1
        have hdr := St.dropC (N := []) h10690
        exact ⟨rfl, hdr⟩
    ·
     replace hR := ifF hR hc2100
     refine W.condT (congrArg Value.bool (congrArg Bool.not (Bool.eq_false_iff.2 hc2100))) ?_
     refine W.seq_k fun _ k10691 => W.regionT [(0, true)] (by kernel_rfl) ?_
     refine Plan.assign_bool rfl rfl <| Plan.nil (k10691 _ _ ?_); clear k10691
     refine W.ret (blockR_ret (thenR_ret (thenR_ret (blockR_ret (thenR_ret (finR_ret ?_))))))
     have h10692 := St.pickT (C := [_, _, _, _, _, _, _, _, _, _, _, _, _, _, _, _, _, _, _, _, _, _]) h2098 [] (by decide)
     simp only [pick, zfc, zfn, zgz, zgs, zca, zna] at h10692
     subst r
     refine RetOk.mk (.tmp_bool rfl .nil) ?_
     exact ⟨rfl, h10692⟩
  ·
   replace hR := ifF hR hc1053
   refine W.condT (congrArg Value.bool (congrArg Bool.not (Bool.eq_false_iff.2 hc1053))) ?_
   refine W.seq_k fun _ k10693 => W.regionT [(0, true)] (by kernel_rfl) ?_
   refine Plan.assign_bool rfl rfl <| Plan.nil (k10693 _ _ ?_); clear k10693
   refine W.ret (blockR_ret (thenR_ret (thenR_ret (blockR_ret (thenR_ret (finR_ret ?_))))))
   have h10694 := St.pickT (C := [_, _, _, _, _, _, _, _, _, _, _, _, _, _]) h1051 [] (by decide)
   simp only [pick, zfc, zfn, zgz, zgs, zca, zna] at h10694
   subst r
   refine RetOk.mk (.tmp_bool rfl .nil) ?_
   exact ⟨rfl, h10694⟩
end Go.Proofs.Ythjkmhdgenmnoaa
