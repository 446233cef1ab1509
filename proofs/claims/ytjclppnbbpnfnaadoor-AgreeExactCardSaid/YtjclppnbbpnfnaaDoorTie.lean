/-
  DERIVED. GIVEN WITH THE SEED: THE PROGRAM's TIES (one call each: nine closed facts by the kernel) AND EACH ROW's TIE, after the 31st guide's Derived/Test/Toyas{Tie, Card}.lean. No idea stands in it: it is a product of the set-up. Laid BY PROGRAM, IN A SANDBOX (cutbox-door.mjs). By AI agents, Wed Nov 11 2026. No macro, syntax, notation, axiom, sorry.
-/
import Derived.Test.YtjclppnbbpnfnaaDoorRows
import Derived.LaidByTextLater
import Derived.SevenTiedAt
import Derived.LaidSub
import Derived.LaidOnce
namespace Go.Proofs.YtjclppnbbpnfnaaDoor
open Go
set_option maxRecDepth 100000
theorem seatTie1 : Tryd.prog.laidByTextLater [("lethe/letheref02.constants", Rows.laid_lethe_letheref02_constants), ("lethe/letheref02.begin", Rows.laid_lethe_letheref02_begin), ("lethe/field.twice", Rows.laid_lethe_field_twice), ("lethe/sha.constants", Rows.laid_lethe_sha_constants), ("lethe/sha.begin", Rows.laid_lethe_sha_begin)] [.data, .data, .data, .data, .data] true :=
  Program.laidByTextLater_by_one 34 8 65 (by kernel_rfl) (by kernel_rfl) (by kernel_rfl) (by kernel_rfl) (by kernel_rfl) (by kernel_rfl) (fun _ _ => by kernel_rfl)
theorem noOwnUnsafe : Tryd.pinned.checked.prog.headLifts.contains "ownunsafe" = false := by kernel_rfl
theorem tie : Tryd.prog.laidByTextLater [("lethe/field.twice", Rows.laid_lethe_field_twice), ("lethe/sha.constants", Rows.laid_lethe_sha_constants), ("lethe/sha.begin", Rows.laid_lethe_sha_begin)] [.data, .data, .data] true :=
  Program.laidByTextLater.sub seatTie1 ["lethe/field.twice", "lethe/sha.constants", "lethe/sha.begin"] (by kernel_rfl) (by kernel_rfl)
theorem agreeIsMade_row_tie : Rows.agreeIsMadeRow.laidByTextAt .later Tryd.pinned [.data, .data, .data] true :=
  OpenClaim.laidByTextAt_later rfl rfl tie noOwnUnsafe
theorem agreeMeets_row_tie : Rows.agreeMeetsRow.laidByTextAt .later Tryd.pinned [.data, .data, .data] true :=
  OpenClaim.laidByTextAt_later rfl rfl tie noOwnUnsafe
theorem agreePoints_row_tie : Rows.agreePointsRow.laidByTextAt .later Tryd.pinned [.data, .data, .data] true :=
  OpenClaim.laidByTextAt_later rfl rfl tie noOwnUnsafe
theorem tie2 : Tryd.prog.laidByTextLater [("lethe/letheref02.constants", Rows.laid_lethe_letheref02_constants), ("lethe/letheref02.begin", Rows.laid_lethe_letheref02_begin), ("lethe/field.twice", Rows.laid_lethe_field_twice), ("lethe/sha.constants", Rows.laid_lethe_sha_constants), ("lethe/sha.begin", Rows.laid_lethe_sha_begin)] [.data, .data, .data, .data, .data] true :=
  Program.laidByTextLater.sub seatTie1 ["lethe/letheref02.constants", "lethe/letheref02.begin", "lethe/field.twice", "lethe/sha.constants", "lethe/sha.begin"] (by kernel_rfl) (by kernel_rfl)
theorem agreeExact_row_tie : Rows.agreeExactRow.laidByTextAt .later Tryd.pinned [.data, .data, .data, .data, .data] true :=
  OpenClaim.laidByTextAt_later rfl rfl tie2 noOwnUnsafe
theorem agreeIsMadeUpto_row_tie : Rows.agreeIsMadeUptoRow.laidByTextAt .later Tryd.pinned [.data, .data, .data] true :=
  OpenClaim.laidByTextAt_later rfl rfl tie noOwnUnsafe
theorem agreeExactUpto_row_tie : Rows.agreeExactUptoRow.laidByTextAt .later Tryd.pinned [.data, .data, .data, .data, .data] true :=
  OpenClaim.laidByTextAt_later rfl rfl tie2 noOwnUnsafe
theorem agreeMeetsUpto_row_tie : Rows.agreeMeetsUptoRow.laidByTextAt .later Tryd.pinned [.data, .data, .data] true :=
  OpenClaim.laidByTextAt_later rfl rfl tie noOwnUnsafe
theorem agreePointsUpto_row_tie : Rows.agreePointsUptoRow.laidByTextAt .later Tryd.pinned [.data, .data, .data] true :=
  OpenClaim.laidByTextAt_later rfl rfl tie noOwnUnsafe
end Go.Proofs.YtjclppnbbpnfnaaDoor
