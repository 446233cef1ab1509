/-
  DERIVED. GIVEN WITH THE SEED: THE CARDS: each row of YtjclppnbbpnfnaaGreatDoorRows.lean that lists a variable, with what it lists TIED to the program's text (the seventh form; the later family's looks); each row that meets fmt, with fmt's text TOLD by the authors' own Lean function (tested against real Go, not proved from fmt's source: count such statements apart). THE CARD IS WHAT COUNTS. Prove the row's statement (the work); the ties are given (YtjclppnbbpnfnaaGreatDoorTie.lean); close each card by the builder's one call (the guide's Derived/Test/ToyasCard.lean, 'card_holds'). Laid BY PROGRAM, IN A SANDBOX (cutbox-door.mjs). By AI agents, Wed Nov 11 2026. No macro, syntax, notation, axiom, sorry.
-/
import Derived.Test.YtjclppnbbpnfnaaGreatDoorRows
import GoSem.ClaimSeven
namespace Go.Proofs.YtjclppnbbpnfnaaGreatDoor
namespace Rows

/-- THE TIED CARD OF 'lethelaw16.RatchetExact'. -/
def ratchetExactCard : Claim7 := { stood := { row := ratchetExactRow, standIns := [], harness := (true, "e6bf7654d95e2caa162d88ddf88e0746220b553e9e0c492d0ad54e2b715b5713"), looks := false }, kinds := [], alts := [], laidByText := true, laidKinds := [.data, .data, .data, .data, .data], laidTests := true, laidLooks := .later }
def RatchetExactCardSaid : Prop := Claim7.holds Tryz.pinned (.plain (OpenSpec.ofChange ratchetExactSpec)) ratchetExactCard

/-- THE TIED CARD OF 'lethelaw16.RatchetMeets'. -/
def ratchetMeetsCard : Claim7 := { stood := { row := ratchetMeetsRow, standIns := [], harness := (true, "e6bf7654d95e2caa162d88ddf88e0746220b553e9e0c492d0ad54e2b715b5713"), looks := false }, kinds := [], alts := [], laidByText := true, laidKinds := [.data, .data, .data, .data], laidTests := true, laidLooks := .later }
def RatchetMeetsCardSaid : Prop := Claim7.holds Tryz.pinned (.plain (OpenSpec.ofChange ratchetMeetsSpec)) ratchetMeetsCard

/-- THE TIED CARD OF 'lethelaw16.RatchetLate'. -/
def ratchetLateCard : Claim7 := { stood := { row := ratchetLateRow, standIns := [], harness := (true, "e6bf7654d95e2caa162d88ddf88e0746220b553e9e0c492d0ad54e2b715b5713"), looks := false }, kinds := [], alts := [], laidByText := true, laidKinds := [.data, .data, .data, .data], laidTests := true, laidLooks := .later }
def RatchetLateCardSaid : Prop := Claim7.holds Tryz.pinned (.plain (OpenSpec.ofChange ratchetLateSpec)) ratchetLateCard

/-- THE TIED CARD OF 'lethelaw16.RatchetRefuses'. -/
def ratchetRefusesCard : Claim7 := { stood := { row := ratchetRefusesRow, standIns := [], harness := (true, "e6bf7654d95e2caa162d88ddf88e0746220b553e9e0c492d0ad54e2b715b5713"), looks := false }, kinds := [], alts := [], laidByText := true, laidKinds := [.data, .data, .data, .data], laidTests := true, laidLooks := .later }
def RatchetRefusesCardSaid : Prop := Claim7.holds Tryz.pinned (.plain (OpenSpec.ofChange ratchetRefusesSpec)) ratchetRefusesCard

/-- THE TIED CARD OF 'lethelaw16.RatchetBinds'. -/
def ratchetBindsCard : Claim7 := { stood := { row := ratchetBindsRow, standIns := [], harness := (true, "e6bf7654d95e2caa162d88ddf88e0746220b553e9e0c492d0ad54e2b715b5713"), looks := false }, kinds := [], alts := [], laidByText := true, laidKinds := [.data, .data, .data, .data], laidTests := true, laidLooks := .later }
def RatchetBindsCardSaid : Prop := Claim7.holds Tryz.pinned (.plain (OpenSpec.ofChange ratchetBindsSpec)) ratchetBindsCard

/-- THE TIED CARD OF 'lethelaw16.RatchetHands'. -/
def ratchetHandsCard : Claim7 := { stood := { row := ratchetHandsRow, standIns := [], harness := (true, "e6bf7654d95e2caa162d88ddf88e0746220b553e9e0c492d0ad54e2b715b5713"), looks := false }, kinds := [], alts := [], laidByText := true, laidKinds := [.data, .data, .data, .data], laidTests := true, laidLooks := .later }
def RatchetHandsCardSaid : Prop := Claim7.holds Tryz.pinned (.plain (OpenSpec.ofChange ratchetHandsSpec)) ratchetHandsCard

/-- THE SECOND FORM's CARD OF 'lethelaw16.RatchetExact'. -/
def ratchetExactUptoCard : Claim7 := { stood := { row := ratchetExactUptoRow, standIns := [], harness := (true, "e6bf7654d95e2caa162d88ddf88e0746220b553e9e0c492d0ad54e2b715b5713"), looks := false }, kinds := [], alts := [], laidByText := true, laidKinds := [.data, .data, .data, .data, .data], laidTests := true, laidLooks := .later }
def RatchetExactUptoCardSaid : Prop := Claim7.holds Tryz.pinned (.plain (OpenSpec.upto ratchetExactSpec)) ratchetExactUptoCard

/-- THE SECOND FORM's CARD OF 'lethelaw16.RatchetMeets'. -/
def ratchetMeetsUptoCard : Claim7 := { stood := { row := ratchetMeetsUptoRow, standIns := [], harness := (true, "e6bf7654d95e2caa162d88ddf88e0746220b553e9e0c492d0ad54e2b715b5713"), looks := false }, kinds := [], alts := [], laidByText := true, laidKinds := [.data, .data, .data, .data], laidTests := true, laidLooks := .later }
def RatchetMeetsUptoCardSaid : Prop := Claim7.holds Tryz.pinned (.plain (OpenSpec.upto ratchetMeetsSpec)) ratchetMeetsUptoCard

/-- THE SECOND FORM's CARD OF 'lethelaw16.RatchetLate'. -/
def ratchetLateUptoCard : Claim7 := { stood := { row := ratchetLateUptoRow, standIns := [], harness := (true, "e6bf7654d95e2caa162d88ddf88e0746220b553e9e0c492d0ad54e2b715b5713"), looks := false }, kinds := [], alts := [], laidByText := true, laidKinds := [.data, .data, .data, .data], laidTests := true, laidLooks := .later }
def RatchetLateUptoCardSaid : Prop := Claim7.holds Tryz.pinned (.plain (OpenSpec.upto ratchetLateSpec)) ratchetLateUptoCard

/-- THE SECOND FORM's CARD OF 'lethelaw16.RatchetRefuses'. -/
def ratchetRefusesUptoCard : Claim7 := { stood := { row := ratchetRefusesUptoRow, standIns := [], harness := (true, "e6bf7654d95e2caa162d88ddf88e0746220b553e9e0c492d0ad54e2b715b5713"), looks := false }, kinds := [], alts := [], laidByText := true, laidKinds := [.data, .data, .data, .data], laidTests := true, laidLooks := .later }
def RatchetRefusesUptoCardSaid : Prop := Claim7.holds Tryz.pinned (.plain (OpenSpec.upto ratchetRefusesSpec)) ratchetRefusesUptoCard

/-- THE SECOND FORM's CARD OF 'lethelaw16.RatchetBinds'. -/
def ratchetBindsUptoCard : Claim7 := { stood := { row := ratchetBindsUptoRow, standIns := [], harness := (true, "e6bf7654d95e2caa162d88ddf88e0746220b553e9e0c492d0ad54e2b715b5713"), looks := false }, kinds := [], alts := [], laidByText := true, laidKinds := [.data, .data, .data, .data], laidTests := true, laidLooks := .later }
def RatchetBindsUptoCardSaid : Prop := Claim7.holds Tryz.pinned (.plain (OpenSpec.upto ratchetBindsSpec)) ratchetBindsUptoCard

/-- THE SECOND FORM's CARD OF 'lethelaw16.RatchetHands'. -/
def ratchetHandsUptoCard : Claim7 := { stood := { row := ratchetHandsUptoRow, standIns := [], harness := (true, "e6bf7654d95e2caa162d88ddf88e0746220b553e9e0c492d0ad54e2b715b5713"), looks := false }, kinds := [], alts := [], laidByText := true, laidKinds := [.data, .data, .data, .data], laidTests := true, laidLooks := .later }
def RatchetHandsUptoCardSaid : Prop := Claim7.holds Tryz.pinned (.plain (OpenSpec.upto ratchetHandsSpec)) ratchetHandsUptoCard
end Rows
end Go.Proofs.YtjclppnbbpnfnaaGreatDoor
