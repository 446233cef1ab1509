/-
  DERIVED. GIVEN WITH THE SEED: THE CARDS: each row of YtjdgbahjpdopbaaDoorRows.lean that lists a variable, with what it lists TIED to the program's text (the seventh form; the later family's looks); each row that meets fmt, with fmt's text TOLD by the authors' own Lean function (tested against real Go, not proved from fmt's source: count such statements apart). THE CARD IS WHAT COUNTS. Prove the row's statement (the work); the ties are given (YtjdgbahjpdopbaaDoorTie.lean); close each card by the builder's one call (the guide's Derived/Test/ToyasCard.lean, 'card_holds'). Laid BY PROGRAM, IN A SANDBOX (cutbox-door.mjs). By AI agents, Wed Nov 11 2026. No macro, syntax, notation, axiom, sorry.
-/
import Derived.Test.YtjdgbahjpdopbaaDoorRows
import GoSem.ClaimSeven
namespace Go.Proofs.YtjdgbahjpdopbaaDoor
namespace Rows

/-- THE TIED CARD OF 'lethelaw02.ShaIsBlocks'. -/
def shaIsBlocksCard : Claim7 := { stood := { row := shaIsBlocksRow, standIns := [], harness := (true, "afb1f8f5e9168669774a6948df6af07196fd31de155ee5ee44b866562fd58b86"), looks := false }, kinds := [], alts := [], laidByText := true, laidKinds := [.data, .data], laidTests := true, laidLooks := .later }
def ShaIsBlocksCardSaid : Prop := Claim7.holds Tryd.pinned (.plain (OpenSpec.ofChange shaIsBlocksSpec)) shaIsBlocksCard

/-- THE TIED CARD OF 'lethelaw02.ShaPieces'. -/
def shaPiecesCard : Claim7 := { stood := { row := shaPiecesRow, standIns := [], harness := (true, "afb1f8f5e9168669774a6948df6af07196fd31de155ee5ee44b866562fd58b86"), looks := false }, kinds := [], alts := [], laidByText := true, laidKinds := [.data, .data], laidTests := true, laidLooks := .later }
def ShaPiecesCardSaid : Prop := Claim7.holds Tryd.pinned (.plain (OpenSpec.ofChange shaPiecesSpec)) shaPiecesCard

/-- THE TIED CARD OF 'lethelaw02.ShaKnown'. -/
def shaKnownCard : Claim7 := { stood := { row := shaKnownRow, standIns := [], harness := (true, "afb1f8f5e9168669774a6948df6af07196fd31de155ee5ee44b866562fd58b86"), looks := false }, kinds := [], alts := [], laidByText := true, laidKinds := [.data, .data], laidTests := true, laidLooks := .later }
def ShaKnownCardSaid : Prop := Claim7.holds Tryd.pinned (.plain (OpenSpec.ofChange shaKnownSpec)) shaKnownCard

/-- THE TIED CARD OF 'lethelaw02.ShaExact'. -/
def shaExactCard : Claim7 := { stood := { row := shaExactRow, standIns := [], harness := (true, "afb1f8f5e9168669774a6948df6af07196fd31de155ee5ee44b866562fd58b86"), looks := false }, kinds := [], alts := [], laidByText := true, laidKinds := [.data, .data, .data, .data], laidTests := true, laidLooks := .later }
def ShaExactCardSaid : Prop := Claim7.holds Tryd.pinned (.plain (OpenSpec.ofChange shaExactSpec)) shaExactCard

/-- THE TIED CARD OF 'lethelaw02.ShaApart'. -/
def shaApartCard : Claim7 := { stood := { row := shaApartRow, standIns := [], harness := (true, "afb1f8f5e9168669774a6948df6af07196fd31de155ee5ee44b866562fd58b86"), looks := false }, kinds := [], alts := [], laidByText := true, laidKinds := [.data, .data], laidTests := true, laidLooks := .later }
def ShaApartCardSaid : Prop := Claim7.holds Tryd.pinned (.plain (OpenSpec.ofChange shaApartSpec)) shaApartCard

/-- THE TIED CARD OF 'lethelaw03.KdfIsHash'. -/
def kdfIsHashCard : Claim7 := { stood := { row := kdfIsHashRow, standIns := [], harness := (true, "afb1f8f5e9168669774a6948df6af07196fd31de155ee5ee44b866562fd58b86"), looks := false }, kinds := [], alts := [], laidByText := true, laidKinds := [.data, .data], laidTests := true, laidLooks := .later }
def KdfIsHashCardSaid : Prop := Claim7.holds Tryd.pinned (.plain (OpenSpec.ofChange kdfIsHashSpec)) kdfIsHashCard

/-- THE TIED CARD OF 'lethelaw03.KdfPads'. -/
def kdfPadsCard : Claim7 := { stood := { row := kdfPadsRow, standIns := [], harness := (true, "afb1f8f5e9168669774a6948df6af07196fd31de155ee5ee44b866562fd58b86"), looks := false }, kinds := [], alts := [], laidByText := true, laidKinds := [.data, .data], laidTests := true, laidLooks := .later }
def KdfPadsCardSaid : Prop := Claim7.holds Tryd.pinned (.plain (OpenSpec.ofChange kdfPadsSpec)) kdfPadsCard

/-- THE TIED CARD OF 'lethelaw13.ChainHands'. -/
def chainHandsCard : Claim7 := { stood := { row := chainHandsRow, standIns := [], harness := (true, "afb1f8f5e9168669774a6948df6af07196fd31de155ee5ee44b866562fd58b86"), looks := false }, kinds := [], alts := [], laidByText := true, laidKinds := [.data, .data], laidTests := true, laidLooks := .later }
def ChainHandsCardSaid : Prop := Claim7.holds Tryd.pinned (.plain (OpenSpec.ofChange chainHandsSpec)) chainHandsCard

/-- THE TIED CARD OF 'lethelaw03.KdfExpands'. -/
def kdfExpandsCard : Claim7 := { stood := { row := kdfExpandsRow, standIns := [], harness := (true, "afb1f8f5e9168669774a6948df6af07196fd31de155ee5ee44b866562fd58b86"), looks := false }, kinds := [], alts := [], laidByText := true, laidKinds := [.data, .data], laidTests := true, laidLooks := .later }
def KdfExpandsCardSaid : Prop := Claim7.holds Tryd.pinned (.plain (OpenSpec.ofChange kdfExpandsSpec)) kdfExpandsCard

/-- THE TIED CARD OF 'lethelaw03.KdfExact'. -/
def kdfExactCard : Claim7 := { stood := { row := kdfExactRow, standIns := [], harness := (true, "afb1f8f5e9168669774a6948df6af07196fd31de155ee5ee44b866562fd58b86"), looks := false }, kinds := [], alts := [], laidByText := true, laidKinds := [.data, .data, .data, .data], laidTests := true, laidLooks := .later }
def KdfExactCardSaid : Prop := Claim7.holds Tryd.pinned (.plain (OpenSpec.ofChange kdfExactSpec)) kdfExactCard

/-- THE TIED CARD OF 'lethelaw03.KdfBounds'. -/
def kdfBoundsCard : Claim7 := { stood := { row := kdfBoundsRow, standIns := [], harness := (true, "afb1f8f5e9168669774a6948df6af07196fd31de155ee5ee44b866562fd58b86"), looks := false }, kinds := [], alts := [], laidByText := true, laidKinds := [.data, .data], laidTests := true, laidLooks := .later }
def KdfBoundsCardSaid : Prop := Claim7.holds Tryd.pinned (.plain (OpenSpec.ofChange kdfBoundsSpec)) kdfBoundsCard

/-- THE TIED CARD OF 'lethelaw03.KdfKeys'. -/
def kdfKeysCard : Claim7 := { stood := { row := kdfKeysRow, standIns := [], harness := (true, "afb1f8f5e9168669774a6948df6af07196fd31de155ee5ee44b866562fd58b86"), looks := false }, kinds := [], alts := [], laidByText := true, laidKinds := [.data, .data], laidTests := true, laidLooks := .later }
def KdfKeysCardSaid : Prop := Claim7.holds Tryd.pinned (.plain (OpenSpec.ofChange kdfKeysSpec)) kdfKeysCard

/-- THE TIED CARD OF 'lethelaw13.ChainExact'. -/
def chainExactCard : Claim7 := { stood := { row := chainExactRow, standIns := [], harness := (true, "afb1f8f5e9168669774a6948df6af07196fd31de155ee5ee44b866562fd58b86"), looks := false }, kinds := [], alts := [], laidByText := true, laidKinds := [.data, .data, .data, .data], laidTests := true, laidLooks := .later }
def ChainExactCardSaid : Prop := Claim7.holds Tryd.pinned (.plain (OpenSpec.ofChange chainExactSpec)) chainExactCard

/-- THE TIED CARD OF 'lethelaw13.ChainSteps'. -/
def chainStepsCard : Claim7 := { stood := { row := chainStepsRow, standIns := [], harness := (true, "afb1f8f5e9168669774a6948df6af07196fd31de155ee5ee44b866562fd58b86"), looks := false }, kinds := [], alts := [], laidByText := true, laidKinds := [.data, .data], laidTests := true, laidLooks := .later }
def ChainStepsCardSaid : Prop := Claim7.holds Tryd.pinned (.plain (OpenSpec.ofChange chainStepsSpec)) chainStepsCard

/-- THE SECOND FORM's CARD OF 'lethelaw02.ShaIsBlocks'. -/
def shaIsBlocksUptoCard : Claim7 := { stood := { row := shaIsBlocksUptoRow, standIns := [], harness := (true, "afb1f8f5e9168669774a6948df6af07196fd31de155ee5ee44b866562fd58b86"), looks := false }, kinds := [], alts := [], laidByText := true, laidKinds := [.data, .data], laidTests := true, laidLooks := .later }
def ShaIsBlocksUptoCardSaid : Prop := Claim7.holds Tryd.pinned (.plain (OpenSpec.upto shaIsBlocksSpec)) shaIsBlocksUptoCard

/-- THE SECOND FORM's CARD OF 'lethelaw02.ShaPieces'. -/
def shaPiecesUptoCard : Claim7 := { stood := { row := shaPiecesUptoRow, standIns := [], harness := (true, "afb1f8f5e9168669774a6948df6af07196fd31de155ee5ee44b866562fd58b86"), looks := false }, kinds := [], alts := [], laidByText := true, laidKinds := [.data, .data], laidTests := true, laidLooks := .later }
def ShaPiecesUptoCardSaid : Prop := Claim7.holds Tryd.pinned (.plain (OpenSpec.upto shaPiecesSpec)) shaPiecesUptoCard

/-- THE SECOND FORM's CARD OF 'lethelaw02.ShaKnown'. -/
def shaKnownUptoCard : Claim7 := { stood := { row := shaKnownUptoRow, standIns := [], harness := (true, "afb1f8f5e9168669774a6948df6af07196fd31de155ee5ee44b866562fd58b86"), looks := false }, kinds := [], alts := [], laidByText := true, laidKinds := [.data, .data], laidTests := true, laidLooks := .later }
def ShaKnownUptoCardSaid : Prop := Claim7.holds Tryd.pinned (.plain (OpenSpec.upto shaKnownSpec)) shaKnownUptoCard

/-- THE SECOND FORM's CARD OF 'lethelaw02.ShaExact'. -/
def shaExactUptoCard : Claim7 := { stood := { row := shaExactUptoRow, standIns := [], harness := (true, "afb1f8f5e9168669774a6948df6af07196fd31de155ee5ee44b866562fd58b86"), looks := false }, kinds := [], alts := [], laidByText := true, laidKinds := [.data, .data, .data, .data], laidTests := true, laidLooks := .later }
def ShaExactUptoCardSaid : Prop := Claim7.holds Tryd.pinned (.plain (OpenSpec.upto shaExactSpec)) shaExactUptoCard

/-- THE SECOND FORM's CARD OF 'lethelaw02.ShaApart'. -/
def shaApartUptoCard : Claim7 := { stood := { row := shaApartUptoRow, standIns := [], harness := (true, "afb1f8f5e9168669774a6948df6af07196fd31de155ee5ee44b866562fd58b86"), looks := false }, kinds := [], alts := [], laidByText := true, laidKinds := [.data, .data], laidTests := true, laidLooks := .later }
def ShaApartUptoCardSaid : Prop := Claim7.holds Tryd.pinned (.plain (OpenSpec.upto shaApartSpec)) shaApartUptoCard

/-- THE SECOND FORM's CARD OF 'lethelaw03.KdfIsHash'. -/
def kdfIsHashUptoCard : Claim7 := { stood := { row := kdfIsHashUptoRow, standIns := [], harness := (true, "afb1f8f5e9168669774a6948df6af07196fd31de155ee5ee44b866562fd58b86"), looks := false }, kinds := [], alts := [], laidByText := true, laidKinds := [.data, .data], laidTests := true, laidLooks := .later }
def KdfIsHashUptoCardSaid : Prop := Claim7.holds Tryd.pinned (.plain (OpenSpec.upto kdfIsHashSpec)) kdfIsHashUptoCard

/-- THE SECOND FORM's CARD OF 'lethelaw03.KdfPads'. -/
def kdfPadsUptoCard : Claim7 := { stood := { row := kdfPadsUptoRow, standIns := [], harness := (true, "afb1f8f5e9168669774a6948df6af07196fd31de155ee5ee44b866562fd58b86"), looks := false }, kinds := [], alts := [], laidByText := true, laidKinds := [.data, .data], laidTests := true, laidLooks := .later }
def KdfPadsUptoCardSaid : Prop := Claim7.holds Tryd.pinned (.plain (OpenSpec.upto kdfPadsSpec)) kdfPadsUptoCard

/-- THE SECOND FORM's CARD OF 'lethelaw13.ChainHands'. -/
def chainHandsUptoCard : Claim7 := { stood := { row := chainHandsUptoRow, standIns := [], harness := (true, "afb1f8f5e9168669774a6948df6af07196fd31de155ee5ee44b866562fd58b86"), looks := false }, kinds := [], alts := [], laidByText := true, laidKinds := [.data, .data], laidTests := true, laidLooks := .later }
def ChainHandsUptoCardSaid : Prop := Claim7.holds Tryd.pinned (.plain (OpenSpec.upto chainHandsSpec)) chainHandsUptoCard

/-- THE SECOND FORM's CARD OF 'lethelaw03.KdfExpands'. -/
def kdfExpandsUptoCard : Claim7 := { stood := { row := kdfExpandsUptoRow, standIns := [], harness := (true, "afb1f8f5e9168669774a6948df6af07196fd31de155ee5ee44b866562fd58b86"), looks := false }, kinds := [], alts := [], laidByText := true, laidKinds := [.data, .data], laidTests := true, laidLooks := .later }
def KdfExpandsUptoCardSaid : Prop := Claim7.holds Tryd.pinned (.plain (OpenSpec.upto kdfExpandsSpec)) kdfExpandsUptoCard

/-- THE SECOND FORM's CARD OF 'lethelaw03.KdfExact'. -/
def kdfExactUptoCard : Claim7 := { stood := { row := kdfExactUptoRow, standIns := [], harness := (true, "afb1f8f5e9168669774a6948df6af07196fd31de155ee5ee44b866562fd58b86"), looks := false }, kinds := [], alts := [], laidByText := true, laidKinds := [.data, .data, .data, .data], laidTests := true, laidLooks := .later }
def KdfExactUptoCardSaid : Prop := Claim7.holds Tryd.pinned (.plain (OpenSpec.upto kdfExactSpec)) kdfExactUptoCard

/-- THE SECOND FORM's CARD OF 'lethelaw03.KdfBounds'. -/
def kdfBoundsUptoCard : Claim7 := { stood := { row := kdfBoundsUptoRow, standIns := [], harness := (true, "afb1f8f5e9168669774a6948df6af07196fd31de155ee5ee44b866562fd58b86"), looks := false }, kinds := [], alts := [], laidByText := true, laidKinds := [.data, .data], laidTests := true, laidLooks := .later }
def KdfBoundsUptoCardSaid : Prop := Claim7.holds Tryd.pinned (.plain (OpenSpec.upto kdfBoundsSpec)) kdfBoundsUptoCard

/-- THE SECOND FORM's CARD OF 'lethelaw03.KdfKeys'. -/
def kdfKeysUptoCard : Claim7 := { stood := { row := kdfKeysUptoRow, standIns := [], harness := (true, "afb1f8f5e9168669774a6948df6af07196fd31de155ee5ee44b866562fd58b86"), looks := false }, kinds := [], alts := [], laidByText := true, laidKinds := [.data, .data], laidTests := true, laidLooks := .later }
def KdfKeysUptoCardSaid : Prop := Claim7.holds Tryd.pinned (.plain (OpenSpec.upto kdfKeysSpec)) kdfKeysUptoCard

/-- THE SECOND FORM's CARD OF 'lethelaw13.ChainExact'. -/
def chainExactUptoCard : Claim7 := { stood := { row := chainExactUptoRow, standIns := [], harness := (true, "afb1f8f5e9168669774a6948df6af07196fd31de155ee5ee44b866562fd58b86"), looks := false }, kinds := [], alts := [], laidByText := true, laidKinds := [.data, .data, .data, .data], laidTests := true, laidLooks := .later }
def ChainExactUptoCardSaid : Prop := Claim7.holds Tryd.pinned (.plain (OpenSpec.upto chainExactSpec)) chainExactUptoCard

/-- THE SECOND FORM's CARD OF 'lethelaw13.ChainSteps'. -/
def chainStepsUptoCard : Claim7 := { stood := { row := chainStepsUptoRow, standIns := [], harness := (true, "afb1f8f5e9168669774a6948df6af07196fd31de155ee5ee44b866562fd58b86"), looks := false }, kinds := [], alts := [], laidByText := true, laidKinds := [.data, .data], laidTests := true, laidLooks := .later }
def ChainStepsUptoCardSaid : Prop := Claim7.holds Tryd.pinned (.plain (OpenSpec.upto chainStepsSpec)) chainStepsUptoCard
end Rows
end Go.Proofs.YtjdgbahjpdopbaaDoor
