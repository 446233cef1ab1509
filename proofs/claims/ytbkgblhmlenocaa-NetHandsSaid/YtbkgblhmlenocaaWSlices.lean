/-
 WALKS of the package's functions, printed by this session's own program (auto.py).
-/
import Derived.Test.YtbkgblhmlenocaaProg
import Derived.Test.YtbkgblhmlenocaaEd
import Derived.Test.YtbkgblhmlenocaaRSlices
import Derived.Test.YtbkgblhmlenocaaEls
namespace Go.Proofs.Ytbkgblhmlenocaa
set_option linter.unusedSimpArgs false
set_option linter.unusedVariables false
set_option linter.unusedSectionVars false
set_option maxRecDepth 8000
set_option maxHeartbeats 1000000
open Go Go.LW
theorem FSlices.slu23 : Try.prog.underlying 23 = some (.slice 5) := by kernel_rfl
theorem FSlices.sz5 : szT Try.prog 5 1 = true := by kernel_rfl
theorem FSlices.el23 : elD Try.prog 23 = some (1, 1, some (VU .u8 0#8)) := by kernel_rfl
theorem FSlices.sl23 : slB Try.prog 23 1 = true := by kernel_rfl
theorem slices_Clone_byte_byte_ok {B : Nat} {w0 : Base} {w : World} {L : List Rg} {s1 : List Byte} {as1 : Option Addr} {ns1 cs1 is1 : Nat} (hs1 : Bx L is1 as1 ns1 cs1 s1) {r : (List Byte)} (hR : slices_Clone_byte_byte s1 r) (HST : St B w0 (L) w) :
  Calls Try.prog 89 #[.slice as1 ns1 cs1] w fun e w' => ∃ ay0 : Option Addr, ∃ py0 : Option Nat, ∃ ny0 : Nat, ∃ cy0 : Nat, ∃ Fy0 : Nat → Byte, e = .returned (.slice ay0 ny0 cy0) ∧ St B w0 (⟨py0, 0, cy0, fun q => VU .u8 (Fy0 q), true⟩ :: L) w' ∧ Ow ay0 py0 ny0 cy0 Fy0 r := by
 refine W.enter 8 Try.func89 rfl rfl rfl ?_
 unfold slices_Clone_byte_byte at hR
 have es1 := hs1.hl; subst es1
 refine W.seq_k fun _ k2 => W.regionT [(0, true)] (by kernel_rfl) ?_
 refine Plan.assign_slice rfl rfl <| Plan.nil (k2 _ _ ?_); clear k2
 refine W.seq_k fun _ k3 => W.seq_k fun _ k4 => ?_
 refine W.regionT [(0, true), (1, true)] (by kernel_rfl) ?_
 refine Plan.move_slice rfl rfl <| Plan.eqSlN FSlices.slu23 rfl rfl rfl <| Plan.nil (k4 _ _ ?_); clear k4
 by_cases hn5 : ¬ (as1.isNone = true)
 ·
  refine W.condF (congrArg Value.bool (Bool.eq_false_iff.2 hn5)) ?_
  refine W.skip ?_
  refine k3 _ _ ?_; clear k3
  refine W.seq_k fun _ k6 => W.regionT [(0, false), (1, true), (2, false), (3, true)] (by kernel_rfl) ?_
  refine Plan.buildE HST (fun q => VU .u8 ((fun _ => 0#8 : Nat → Byte) q)) FSlices.slu23 FSlices.sz5 rfl (EffO.keep PIn.nil) fun b7 w7 hb7 h7 => ?_
  refine Plan.move_slice rfl rfl ?_
  obtain ⟨hc9, hR⟩ := hR
  refine Plan.appendO (X := ([] : List Byte)) (Y := s1) h7 0 Ow.empty FSlices.el23 FSlices.sl23 rfl rfl rfl rfl (hs1.app [_]) hc9 (fun _ => EffO.keep PIn.nil) fun a8 pb8 cap8 F8 w8 ho8 h8 => ?_
  simp only [zca, zna, zsz, zss] at h8
  refine Plan.assign_slice rfl rfl <| Plan.nil (k6 _ _ ?_); clear k6
  refine W.ret (finR_ret ?_)
  subst r
  refine RetOk.mk (.tmp_slice rfl .nil) ?_
  exact ⟨a8, pb8, (([] : List Byte) ++ s1).length, cap8, F8, rfl, h8, ho8⟩
 ·
  replace hn5 := Classical.not_not.1 hn5
  refine W.condT (congrArg Value.bool hn5) ?_
  obtain ⟨_, hR⟩ := hR
  obtain rfl := hs1.isN hn5
  refine W.seq_k fun _ k10 => W.regionT [(0, true)] (by kernel_rfl) ?_
  refine Plan.assign_slice rfl rfl <| Plan.nil (k10 _ _ ?_); clear k10
  refine W.ret (thenR_ret (finR_ret ?_))
  have h11 := HST.nilR
  subst r
  refine RetOk.mk (.tmp_slice rfl .nil) ?_
  exact ⟨none, none, 0, 0, (fun _ => 0#8), rfl, h11, Ow.nil⟩
end Go.Proofs.Ytbkgblhmlenocaa
