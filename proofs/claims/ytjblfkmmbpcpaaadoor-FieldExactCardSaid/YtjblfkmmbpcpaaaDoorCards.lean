/-
  DERIVED. GIVEN WITH THE SEED: THE CARDS: each row of YtjblfkmmbpcpaaaDoorRows.lean that lists a variable, with what it lists TIED to the program's text (the seventh form; the later family's looks); each row that meets fmt, with fmt's text TOLD by the authors' own Lean function (tested against real Go, not proved from fmt's source: count such statements apart). THE CARD IS WHAT COUNTS. Prove the row's statement (the work); the ties are given (YtjblfkmmbpcpaaaDoorTie.lean); close each card by the builder's one call (the guide's Derived/Test/ToyasCard.lean, 'card_holds'). Laid BY PROGRAM, IN A SANDBOX (cutbox-door.mjs). By AI agents, Wed Nov 11 2026. No macro, syntax, notation, axiom, sorry.
-/
import Derived.Test.YtjblfkmmbpcpaaaDoorRows
import GoSem.ClaimSeven
namespace Go.Proofs.YtjblfkmmbpcpaaaDoor
namespace Rows

/-- THE TIED CARD OF 'lethelaw06.FieldRing'. -/
def fieldRingCard : Claim7 := { stood := { row := fieldRingRow, standIns := [], harness := (true, "62b70d03482cab3668a904bda63874c62396951f4199fa2ca33e12cab79914b8"), looks := false }, kinds := [], alts := [], laidByText := true, laidKinds := [.data], laidTests := true, laidLooks := .later }
def FieldRingCardSaid : Prop := Claim7.holds Tryd.pinned (.plain (OpenSpec.ofChange fieldRingSpec)) fieldRingCard

/-- THE TIED CARD OF 'lethelaw06.FieldRoots'. -/
def fieldRootsCard : Claim7 := { stood := { row := fieldRootsRow, standIns := [], harness := (true, "62b70d03482cab3668a904bda63874c62396951f4199fa2ca33e12cab79914b8"), looks := false }, kinds := [], alts := [], laidByText := true, laidKinds := [.data], laidTests := true, laidLooks := .later }
def FieldRootsCardSaid : Prop := Claim7.holds Tryd.pinned (.plain (OpenSpec.ofChange fieldRootsSpec)) fieldRootsCard

/-- THE TIED CARD OF 'lethelaw06.FieldExact'. -/
def fieldExactCard : Claim7 := { stood := { row := fieldExactRow, standIns := [], harness := (true, "62b70d03482cab3668a904bda63874c62396951f4199fa2ca33e12cab79914b8"), looks := false }, kinds := [], alts := [], laidByText := true, laidKinds := [.data], laidTests := true, laidLooks := .later }
def FieldExactCardSaid : Prop := Claim7.holds Tryd.pinned (.plain (OpenSpec.ofChange fieldExactSpec)) fieldExactCard

/-- THE TIED CARD OF 'lethelaw07.CurveNames'. -/
def curveNamesCard : Claim7 := { stood := { row := curveNamesRow, standIns := [], harness := (true, "62b70d03482cab3668a904bda63874c62396951f4199fa2ca33e12cab79914b8"), looks := false }, kinds := [], alts := [], laidByText := true, laidKinds := [.data], laidTests := true, laidLooks := .later }
def CurveNamesCardSaid : Prop := Claim7.holds Tryd.pinned (.plain (OpenSpec.ofChange curveNamesSpec)) curveNamesCard

/-- THE TIED CARD OF 'lethelaw07.CurveMeets'. -/
def curveMeetsCard : Claim7 := { stood := { row := curveMeetsRow, standIns := [], harness := (true, "62b70d03482cab3668a904bda63874c62396951f4199fa2ca33e12cab79914b8"), looks := false }, kinds := [], alts := [], laidByText := true, laidKinds := [.data], laidTests := true, laidLooks := .later }
def CurveMeetsCardSaid : Prop := Claim7.holds Tryd.pinned (.plain (OpenSpec.ofChange curveMeetsSpec)) curveMeetsCard

/-- THE TIED CARD OF 'lethelaw07.CurveForms'. -/
def curveFormsCard : Claim7 := { stood := { row := curveFormsRow, standIns := [], harness := (true, "62b70d03482cab3668a904bda63874c62396951f4199fa2ca33e12cab79914b8"), looks := false }, kinds := [], alts := [], laidByText := true, laidKinds := [.data], laidTests := true, laidLooks := .later }
def CurveFormsCardSaid : Prop := Claim7.holds Tryd.pinned (.plain (OpenSpec.ofChange curveFormsSpec)) curveFormsCard

/-- THE TIED CARD OF 'lethelaw07.CurveLow'. -/
def curveLowCard : Claim7 := { stood := { row := curveLowRow, standIns := [], harness := (true, "62b70d03482cab3668a904bda63874c62396951f4199fa2ca33e12cab79914b8"), looks := false }, kinds := [], alts := [], laidByText := true, laidKinds := [.data], laidTests := true, laidLooks := .later }
def CurveLowCardSaid : Prop := Claim7.holds Tryd.pinned (.plain (OpenSpec.ofChange curveLowSpec)) curveLowCard

/-- THE TIED CARD OF 'lethelaw07.CurveExact'. -/
def curveExactCard : Claim7 := { stood := { row := curveExactRow, standIns := [], harness := (true, "62b70d03482cab3668a904bda63874c62396951f4199fa2ca33e12cab79914b8"), looks := false }, kinds := [], alts := [], laidByText := true, laidKinds := [.data], laidTests := true, laidLooks := .later }
def CurveExactCardSaid : Prop := Claim7.holds Tryd.pinned (.plain (OpenSpec.ofChange curveExactSpec)) curveExactCard

/-- THE TIED CARD OF 'lethelaw07.CurveAgrees'. -/
def curveAgreesCard : Claim7 := { stood := { row := curveAgreesRow, standIns := [], harness := (true, "62b70d03482cab3668a904bda63874c62396951f4199fa2ca33e12cab79914b8"), looks := false }, kinds := [], alts := [], laidByText := true, laidKinds := [.data], laidTests := true, laidLooks := .later }
def CurveAgreesCardSaid : Prop := Claim7.holds Tryd.pinned (.plain (OpenSpec.ofChange curveAgreesSpec)) curveAgreesCard

/-- THE SECOND FORM's CARD OF 'lethelaw06.FieldRing'. -/
def fieldRingUptoCard : Claim7 := { stood := { row := fieldRingUptoRow, standIns := [], harness := (true, "62b70d03482cab3668a904bda63874c62396951f4199fa2ca33e12cab79914b8"), looks := false }, kinds := [], alts := [], laidByText := true, laidKinds := [.data], laidTests := true, laidLooks := .later }
def FieldRingUptoCardSaid : Prop := Claim7.holds Tryd.pinned (.plain (OpenSpec.upto fieldRingSpec)) fieldRingUptoCard

/-- THE SECOND FORM's CARD OF 'lethelaw06.FieldRoots'. -/
def fieldRootsUptoCard : Claim7 := { stood := { row := fieldRootsUptoRow, standIns := [], harness := (true, "62b70d03482cab3668a904bda63874c62396951f4199fa2ca33e12cab79914b8"), looks := false }, kinds := [], alts := [], laidByText := true, laidKinds := [.data], laidTests := true, laidLooks := .later }
def FieldRootsUptoCardSaid : Prop := Claim7.holds Tryd.pinned (.plain (OpenSpec.upto fieldRootsSpec)) fieldRootsUptoCard

/-- THE SECOND FORM's CARD OF 'lethelaw06.FieldExact'. -/
def fieldExactUptoCard : Claim7 := { stood := { row := fieldExactUptoRow, standIns := [], harness := (true, "62b70d03482cab3668a904bda63874c62396951f4199fa2ca33e12cab79914b8"), looks := false }, kinds := [], alts := [], laidByText := true, laidKinds := [.data], laidTests := true, laidLooks := .later }
def FieldExactUptoCardSaid : Prop := Claim7.holds Tryd.pinned (.plain (OpenSpec.upto fieldExactSpec)) fieldExactUptoCard

/-- THE SECOND FORM's CARD OF 'lethelaw07.CurveNames'. -/
def curveNamesUptoCard : Claim7 := { stood := { row := curveNamesUptoRow, standIns := [], harness := (true, "62b70d03482cab3668a904bda63874c62396951f4199fa2ca33e12cab79914b8"), looks := false }, kinds := [], alts := [], laidByText := true, laidKinds := [.data], laidTests := true, laidLooks := .later }
def CurveNamesUptoCardSaid : Prop := Claim7.holds Tryd.pinned (.plain (OpenSpec.upto curveNamesSpec)) curveNamesUptoCard

/-- THE SECOND FORM's CARD OF 'lethelaw07.CurveMeets'. -/
def curveMeetsUptoCard : Claim7 := { stood := { row := curveMeetsUptoRow, standIns := [], harness := (true, "62b70d03482cab3668a904bda63874c62396951f4199fa2ca33e12cab79914b8"), looks := false }, kinds := [], alts := [], laidByText := true, laidKinds := [.data], laidTests := true, laidLooks := .later }
def CurveMeetsUptoCardSaid : Prop := Claim7.holds Tryd.pinned (.plain (OpenSpec.upto curveMeetsSpec)) curveMeetsUptoCard

/-- THE SECOND FORM's CARD OF 'lethelaw07.CurveForms'. -/
def curveFormsUptoCard : Claim7 := { stood := { row := curveFormsUptoRow, standIns := [], harness := (true, "62b70d03482cab3668a904bda63874c62396951f4199fa2ca33e12cab79914b8"), looks := false }, kinds := [], alts := [], laidByText := true, laidKinds := [.data], laidTests := true, laidLooks := .later }
def CurveFormsUptoCardSaid : Prop := Claim7.holds Tryd.pinned (.plain (OpenSpec.upto curveFormsSpec)) curveFormsUptoCard

/-- THE SECOND FORM's CARD OF 'lethelaw07.CurveLow'. -/
def curveLowUptoCard : Claim7 := { stood := { row := curveLowUptoRow, standIns := [], harness := (true, "62b70d03482cab3668a904bda63874c62396951f4199fa2ca33e12cab79914b8"), looks := false }, kinds := [], alts := [], laidByText := true, laidKinds := [.data], laidTests := true, laidLooks := .later }
def CurveLowUptoCardSaid : Prop := Claim7.holds Tryd.pinned (.plain (OpenSpec.upto curveLowSpec)) curveLowUptoCard

/-- THE SECOND FORM's CARD OF 'lethelaw07.CurveExact'. -/
def curveExactUptoCard : Claim7 := { stood := { row := curveExactUptoRow, standIns := [], harness := (true, "62b70d03482cab3668a904bda63874c62396951f4199fa2ca33e12cab79914b8"), looks := false }, kinds := [], alts := [], laidByText := true, laidKinds := [.data], laidTests := true, laidLooks := .later }
def CurveExactUptoCardSaid : Prop := Claim7.holds Tryd.pinned (.plain (OpenSpec.upto curveExactSpec)) curveExactUptoCard

/-- THE SECOND FORM's CARD OF 'lethelaw07.CurveAgrees'. -/
def curveAgreesUptoCard : Claim7 := { stood := { row := curveAgreesUptoRow, standIns := [], harness := (true, "62b70d03482cab3668a904bda63874c62396951f4199fa2ca33e12cab79914b8"), looks := false }, kinds := [], alts := [], laidByText := true, laidKinds := [.data], laidTests := true, laidLooks := .later }
def CurveAgreesUptoCardSaid : Prop := Claim7.holds Tryd.pinned (.plain (OpenSpec.upto curveAgreesSpec)) curveAgreesUptoCard
end Rows
end Go.Proofs.YtjblfkmmbpcpaaaDoor
