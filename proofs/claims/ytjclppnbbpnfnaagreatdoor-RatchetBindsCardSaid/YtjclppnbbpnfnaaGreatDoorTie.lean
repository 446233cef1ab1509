/-
  DERIVED. GIVEN WITH THE SEED: THE PROGRAM's TIES (one call each: nine closed facts by the kernel) AND EACH ROW's TIE, after the 31st guide's Derived/Test/Toyas{Tie, Card}.lean. No idea stands in it: it is a product of the set-up. Laid BY PROGRAM, IN A SANDBOX (cutbox-door.mjs). By AI agents, Wed Nov 11 2026. No macro, syntax, notation, axiom, sorry.
-/
import Derived.Test.YtjclppnbbpnfnaaGreatDoorRows
import Derived.LaidByTextLater
import Derived.SevenTiedAt
import Derived.LaidSub
import Derived.LaidOnce
namespace Go.Proofs.YtjclppnbbpnfnaaGreatDoor
open Go
set_option maxRecDepth 100000
theorem seatTie1 : Tryz.prog.laidByTextLater [("lethe/letheref02.constants", Rows.laid_lethe_letheref02_constants), ("lethe/letheref02.begin", Rows.laid_lethe_letheref02_begin), ("lethe/field.twice", Rows.laid_lethe_field_twice), ("lethe/sha.constants", Rows.laid_lethe_sha_constants), ("lethe/sha.begin", Rows.laid_lethe_sha_begin), ("lethe/lethelaw16.roomy", Rows.laid_lethe_lethelaw16_roomy)] [.data, .data, .data, .data, .data, .data] true :=
  Program.laidByTextLater_by_one 39 8 65 (by kernel_rfl) (by kernel_rfl) (by kernel_rfl) (by kernel_rfl) (by kernel_rfl) (by kernel_rfl) (fun _ _ => by kernel_rfl)
theorem noOwnUnsafe : Tryz.pinned.checked.prog.headLifts.contains "ownunsafe" = false := by kernel_rfl
theorem tie : Tryz.prog.laidByTextLater [("lethe/letheref02.constants", Rows.laid_lethe_letheref02_constants), ("lethe/letheref02.begin", Rows.laid_lethe_letheref02_begin), ("lethe/field.twice", Rows.laid_lethe_field_twice), ("lethe/sha.constants", Rows.laid_lethe_sha_constants), ("lethe/sha.begin", Rows.laid_lethe_sha_begin)] [.data, .data, .data, .data, .data] true :=
  Program.laidByTextLater.sub seatTie1 ["lethe/letheref02.constants", "lethe/letheref02.begin", "lethe/field.twice", "lethe/sha.constants", "lethe/sha.begin"] (by kernel_rfl) (by kernel_rfl)
theorem ratchetExact_row_tie : Rows.ratchetExactRow.laidByTextAt .later Tryz.pinned [.data, .data, .data, .data, .data] true :=
  OpenClaim.laidByTextAt_later rfl rfl tie noOwnUnsafe
theorem tie2 : Tryz.prog.laidByTextLater [("lethe/field.twice", Rows.laid_lethe_field_twice), ("lethe/sha.constants", Rows.laid_lethe_sha_constants), ("lethe/sha.begin", Rows.laid_lethe_sha_begin), ("lethe/lethelaw16.roomy", Rows.laid_lethe_lethelaw16_roomy)] [.data, .data, .data, .data] true :=
  Program.laidByTextLater.sub seatTie1 ["lethe/field.twice", "lethe/sha.constants", "lethe/sha.begin", "lethe/lethelaw16.roomy"] (by kernel_rfl) (by kernel_rfl)
theorem ratchetMeets_row_tie : Rows.ratchetMeetsRow.laidByTextAt .later Tryz.pinned [.data, .data, .data, .data] true :=
  OpenClaim.laidByTextAt_later rfl rfl tie2 noOwnUnsafe
theorem ratchetLate_row_tie : Rows.ratchetLateRow.laidByTextAt .later Tryz.pinned [.data, .data, .data, .data] true :=
  OpenClaim.laidByTextAt_later rfl rfl tie2 noOwnUnsafe
theorem ratchetRefuses_row_tie : Rows.ratchetRefusesRow.laidByTextAt .later Tryz.pinned [.data, .data, .data, .data] true :=
  OpenClaim.laidByTextAt_later rfl rfl tie2 noOwnUnsafe
theorem ratchetBinds_row_tie : Rows.ratchetBindsRow.laidByTextAt .later Tryz.pinned [.data, .data, .data, .data] true :=
  OpenClaim.laidByTextAt_later rfl rfl tie2 noOwnUnsafe
theorem ratchetHands_row_tie : Rows.ratchetHandsRow.laidByTextAt .later Tryz.pinned [.data, .data, .data, .data] true :=
  OpenClaim.laidByTextAt_later rfl rfl tie2 noOwnUnsafe
theorem ratchetExactUpto_row_tie : Rows.ratchetExactUptoRow.laidByTextAt .later Tryz.pinned [.data, .data, .data, .data, .data] true :=
  OpenClaim.laidByTextAt_later rfl rfl tie noOwnUnsafe
theorem ratchetMeetsUpto_row_tie : Rows.ratchetMeetsUptoRow.laidByTextAt .later Tryz.pinned [.data, .data, .data, .data] true :=
  OpenClaim.laidByTextAt_later rfl rfl tie2 noOwnUnsafe
theorem ratchetLateUpto_row_tie : Rows.ratchetLateUptoRow.laidByTextAt .later Tryz.pinned [.data, .data, .data, .data] true :=
  OpenClaim.laidByTextAt_later rfl rfl tie2 noOwnUnsafe
theorem ratchetRefusesUpto_row_tie : Rows.ratchetRefusesUptoRow.laidByTextAt .later Tryz.pinned [.data, .data, .data, .data] true :=
  OpenClaim.laidByTextAt_later rfl rfl tie2 noOwnUnsafe
theorem ratchetBindsUpto_row_tie : Rows.ratchetBindsUptoRow.laidByTextAt .later Tryz.pinned [.data, .data, .data, .data] true :=
  OpenClaim.laidByTextAt_later rfl rfl tie2 noOwnUnsafe
theorem ratchetHandsUpto_row_tie : Rows.ratchetHandsUptoRow.laidByTextAt .later Tryz.pinned [.data, .data, .data, .data] true :=
  OpenClaim.laidByTextAt_later rfl rfl tie2 noOwnUnsafe
end Go.Proofs.YtjclppnbbpnfnaaGreatDoor
