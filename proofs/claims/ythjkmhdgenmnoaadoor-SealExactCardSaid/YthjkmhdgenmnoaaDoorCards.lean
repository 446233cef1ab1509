/-
  DERIVED. GIVEN WITH THE SEED: THE CARDS: each row of YthjkmhdgenmnoaaDoorRows.lean that lists a variable, with what it lists TIED to the program's text (the seventh form; the later family's looks); each row that meets fmt, with fmt's text TOLD by the authors' own Lean function (tested against real Go, not proved from fmt's source: count such statements apart). THE CARD IS WHAT COUNTS. Prove the row's statement (the work); the ties are given (YthjkmhdgenmnoaaDoorTie.lean); close each card by the builder's one call (the guide's Derived/Test/ToyasCard.lean, 'card_holds'). Laid BY PROGRAM, IN A SANDBOX (cutbox-door.mjs). By AI agents, Wed Nov 11 2026. No macro, syntax, notation, axiom, sorry.
-/
import Derived.Test.YthjkmhdgenmnoaaDoorRows
import GoSem.ClaimSeven
namespace Go.Proofs.YthjkmhdgenmnoaaDoor
namespace Rows

/-- THE TIED CARD OF 'lethelaw05.SealStreams'. -/
def sealStreamsCard : Claim7 := { stood := { row := sealStreamsRow, standIns := [], harness := (true, "584be35b70f105f2bd10ea327191e9de1fc3c811405873cb79d4a7b2a8aab345"), looks := false }, kinds := [], alts := [], laidByText := true, laidKinds := [.data, .data], laidTests := true, laidLooks := .later }
def SealStreamsCardSaid : Prop := Claim7.holds Tryd.pinned (.plain (OpenSpec.ofChange sealStreamsSpec)) sealStreamsCard

/-- THE TIED CARD OF 'lethelaw05.SealRefuses'. -/
def sealRefusesCard : Claim7 := { stood := { row := sealRefusesRow, standIns := [], harness := (true, "584be35b70f105f2bd10ea327191e9de1fc3c811405873cb79d4a7b2a8aab345"), looks := false }, kinds := [], alts := [], laidByText := true, laidKinds := [.data, .data], laidTests := true, laidLooks := .later }
def SealRefusesCardSaid : Prop := Claim7.holds Tryd.pinned (.plain (OpenSpec.ofChange sealRefusesSpec)) sealRefusesCard

/-- THE TIED CARD OF 'lethelaw05.SealOneForm'. -/
def sealOneFormCard : Claim7 := { stood := { row := sealOneFormRow, standIns := [], harness := (true, "584be35b70f105f2bd10ea327191e9de1fc3c811405873cb79d4a7b2a8aab345"), looks := false }, kinds := [], alts := [], laidByText := true, laidKinds := [.data, .data], laidTests := true, laidLooks := .later }
def SealOneFormCardSaid : Prop := Claim7.holds Tryd.pinned (.plain (OpenSpec.ofChange sealOneFormSpec)) sealOneFormCard

/-- THE TIED CARD OF 'lethelaw05.SealExact'. -/
def sealExactCard : Claim7 := { stood := { row := sealExactRow, standIns := [], harness := (true, "584be35b70f105f2bd10ea327191e9de1fc3c811405873cb79d4a7b2a8aab345"), looks := false }, kinds := [], alts := [], laidByText := true, laidKinds := [.data, .data, .data, .data], laidTests := true, laidLooks := .later }
def SealExactCardSaid : Prop := Claim7.holds Tryd.pinned (.plain (OpenSpec.ofChange sealExactSpec)) sealExactCard

/-- THE TIED CARD OF 'lethelaw05.SealOpens'. -/
def sealOpensCard : Claim7 := { stood := { row := sealOpensRow, standIns := [], harness := (true, "584be35b70f105f2bd10ea327191e9de1fc3c811405873cb79d4a7b2a8aab345"), looks := false }, kinds := [], alts := [], laidByText := true, laidKinds := [.data, .data], laidTests := true, laidLooks := .later }
def SealOpensCardSaid : Prop := Claim7.holds Tryd.pinned (.plain (OpenSpec.ofChange sealOpensSpec)) sealOpensCard

/-- THE TIED CARD OF 'lethelaw05.SealBounds'. -/
def sealBoundsCard : Claim7 := { stood := { row := sealBoundsRow, standIns := [], harness := (true, "584be35b70f105f2bd10ea327191e9de1fc3c811405873cb79d4a7b2a8aab345"), looks := false }, kinds := [], alts := [], laidByText := true, laidKinds := [.data, .data], laidTests := true, laidLooks := .later }
def SealBoundsCardSaid : Prop := Claim7.holds Tryd.pinned (.plain (OpenSpec.ofChange sealBoundsSpec)) sealBoundsCard

/-- THE SECOND FORM's CARD OF 'lethelaw05.SealStreams'. -/
def sealStreamsUptoCard : Claim7 := { stood := { row := sealStreamsUptoRow, standIns := [], harness := (true, "584be35b70f105f2bd10ea327191e9de1fc3c811405873cb79d4a7b2a8aab345"), looks := false }, kinds := [], alts := [], laidByText := true, laidKinds := [.data, .data], laidTests := true, laidLooks := .later }
def SealStreamsUptoCardSaid : Prop := Claim7.holds Tryd.pinned (.plain (OpenSpec.upto sealStreamsSpec)) sealStreamsUptoCard

/-- THE SECOND FORM's CARD OF 'lethelaw05.SealRefuses'. -/
def sealRefusesUptoCard : Claim7 := { stood := { row := sealRefusesUptoRow, standIns := [], harness := (true, "584be35b70f105f2bd10ea327191e9de1fc3c811405873cb79d4a7b2a8aab345"), looks := false }, kinds := [], alts := [], laidByText := true, laidKinds := [.data, .data], laidTests := true, laidLooks := .later }
def SealRefusesUptoCardSaid : Prop := Claim7.holds Tryd.pinned (.plain (OpenSpec.upto sealRefusesSpec)) sealRefusesUptoCard

/-- THE SECOND FORM's CARD OF 'lethelaw05.SealOneForm'. -/
def sealOneFormUptoCard : Claim7 := { stood := { row := sealOneFormUptoRow, standIns := [], harness := (true, "584be35b70f105f2bd10ea327191e9de1fc3c811405873cb79d4a7b2a8aab345"), looks := false }, kinds := [], alts := [], laidByText := true, laidKinds := [.data, .data], laidTests := true, laidLooks := .later }
def SealOneFormUptoCardSaid : Prop := Claim7.holds Tryd.pinned (.plain (OpenSpec.upto sealOneFormSpec)) sealOneFormUptoCard

/-- THE SECOND FORM's CARD OF 'lethelaw05.SealExact'. -/
def sealExactUptoCard : Claim7 := { stood := { row := sealExactUptoRow, standIns := [], harness := (true, "584be35b70f105f2bd10ea327191e9de1fc3c811405873cb79d4a7b2a8aab345"), looks := false }, kinds := [], alts := [], laidByText := true, laidKinds := [.data, .data, .data, .data], laidTests := true, laidLooks := .later }
def SealExactUptoCardSaid : Prop := Claim7.holds Tryd.pinned (.plain (OpenSpec.upto sealExactSpec)) sealExactUptoCard

/-- THE SECOND FORM's CARD OF 'lethelaw05.SealOpens'. -/
def sealOpensUptoCard : Claim7 := { stood := { row := sealOpensUptoRow, standIns := [], harness := (true, "584be35b70f105f2bd10ea327191e9de1fc3c811405873cb79d4a7b2a8aab345"), looks := false }, kinds := [], alts := [], laidByText := true, laidKinds := [.data, .data], laidTests := true, laidLooks := .later }
def SealOpensUptoCardSaid : Prop := Claim7.holds Tryd.pinned (.plain (OpenSpec.upto sealOpensSpec)) sealOpensUptoCard

/-- THE SECOND FORM's CARD OF 'lethelaw05.SealBounds'. -/
def sealBoundsUptoCard : Claim7 := { stood := { row := sealBoundsUptoRow, standIns := [], harness := (true, "584be35b70f105f2bd10ea327191e9de1fc3c811405873cb79d4a7b2a8aab345"), looks := false }, kinds := [], alts := [], laidByText := true, laidKinds := [.data, .data], laidTests := true, laidLooks := .later }
def SealBoundsUptoCardSaid : Prop := Claim7.holds Tryd.pinned (.plain (OpenSpec.upto sealBoundsSpec)) sealBoundsUptoCard
end Rows
end Go.Proofs.YthjkmhdgenmnoaaDoor
