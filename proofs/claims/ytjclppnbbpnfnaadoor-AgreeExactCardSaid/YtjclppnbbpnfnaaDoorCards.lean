/-
  DERIVED. GIVEN WITH THE SEED: THE CARDS: each row of YtjclppnbbpnfnaaDoorRows.lean that lists a variable, with what it lists TIED to the program's text (the seventh form; the later family's looks); each row that meets fmt, with fmt's text TOLD by the authors' own Lean function (tested against real Go, not proved from fmt's source: count such statements apart). THE CARD IS WHAT COUNTS. Prove the row's statement (the work); the ties are given (YtjclppnbbpnfnaaDoorTie.lean); close each card by the builder's one call (the guide's Derived/Test/ToyasCard.lean, 'card_holds'). Laid BY PROGRAM, IN A SANDBOX (cutbox-door.mjs). By AI agents, Wed Nov 11 2026. No macro, syntax, notation, axiom, sorry.
-/
import Derived.Test.YtjclppnbbpnfnaaDoorRows
import GoSem.ClaimSeven
namespace Go.Proofs.YtjclppnbbpnfnaaDoor
namespace Rows

/-- THE TIED CARD OF 'lethelaw17.AgreeIsMade'. -/
def agreeIsMadeCard : Claim7 := { stood := { row := agreeIsMadeRow, standIns := [], harness := (true, "cde5f22be7243fb9b6bd708a5524aac1050ee61b6344c7935767eba6c48221aa"), looks := false }, kinds := [], alts := [], laidByText := true, laidKinds := [.data, .data, .data], laidTests := true, laidLooks := .later }
def AgreeIsMadeCardSaid : Prop := Claim7.holds Tryd.pinned (.plain (OpenSpec.ofChange agreeIsMadeSpec)) agreeIsMadeCard

/-- THE TIED CARD OF 'lethelaw17.AgreeExact'. -/
def agreeExactCard : Claim7 := { stood := { row := agreeExactRow, standIns := [], harness := (true, "cde5f22be7243fb9b6bd708a5524aac1050ee61b6344c7935767eba6c48221aa"), looks := false }, kinds := [], alts := [], laidByText := true, laidKinds := [.data, .data, .data, .data, .data], laidTests := true, laidLooks := .later }
def AgreeExactCardSaid : Prop := Claim7.holds Tryd.pinned (.plain (OpenSpec.ofChange agreeExactSpec)) agreeExactCard

/-- THE TIED CARD OF 'lethelaw17.AgreeMeets'. -/
def agreeMeetsCard : Claim7 := { stood := { row := agreeMeetsRow, standIns := [], harness := (true, "cde5f22be7243fb9b6bd708a5524aac1050ee61b6344c7935767eba6c48221aa"), looks := false }, kinds := [], alts := [], laidByText := true, laidKinds := [.data, .data, .data], laidTests := true, laidLooks := .later }
def AgreeMeetsCardSaid : Prop := Claim7.holds Tryd.pinned (.plain (OpenSpec.ofChange agreeMeetsSpec)) agreeMeetsCard

/-- THE TIED CARD OF 'lethelaw17.AgreePoints'. -/
def agreePointsCard : Claim7 := { stood := { row := agreePointsRow, standIns := [], harness := (true, "cde5f22be7243fb9b6bd708a5524aac1050ee61b6344c7935767eba6c48221aa"), looks := false }, kinds := [], alts := [], laidByText := true, laidKinds := [.data, .data, .data], laidTests := true, laidLooks := .later }
def AgreePointsCardSaid : Prop := Claim7.holds Tryd.pinned (.plain (OpenSpec.ofChange agreePointsSpec)) agreePointsCard

/-- THE SECOND FORM's CARD OF 'lethelaw17.AgreeIsMade'. -/
def agreeIsMadeUptoCard : Claim7 := { stood := { row := agreeIsMadeUptoRow, standIns := [], harness := (true, "cde5f22be7243fb9b6bd708a5524aac1050ee61b6344c7935767eba6c48221aa"), looks := false }, kinds := [], alts := [], laidByText := true, laidKinds := [.data, .data, .data], laidTests := true, laidLooks := .later }
def AgreeIsMadeUptoCardSaid : Prop := Claim7.holds Tryd.pinned (.plain (OpenSpec.upto agreeIsMadeSpec)) agreeIsMadeUptoCard

/-- THE SECOND FORM's CARD OF 'lethelaw17.AgreeExact'. -/
def agreeExactUptoCard : Claim7 := { stood := { row := agreeExactUptoRow, standIns := [], harness := (true, "cde5f22be7243fb9b6bd708a5524aac1050ee61b6344c7935767eba6c48221aa"), looks := false }, kinds := [], alts := [], laidByText := true, laidKinds := [.data, .data, .data, .data, .data], laidTests := true, laidLooks := .later }
def AgreeExactUptoCardSaid : Prop := Claim7.holds Tryd.pinned (.plain (OpenSpec.upto agreeExactSpec)) agreeExactUptoCard

/-- THE SECOND FORM's CARD OF 'lethelaw17.AgreeMeets'. -/
def agreeMeetsUptoCard : Claim7 := { stood := { row := agreeMeetsUptoRow, standIns := [], harness := (true, "cde5f22be7243fb9b6bd708a5524aac1050ee61b6344c7935767eba6c48221aa"), looks := false }, kinds := [], alts := [], laidByText := true, laidKinds := [.data, .data, .data], laidTests := true, laidLooks := .later }
def AgreeMeetsUptoCardSaid : Prop := Claim7.holds Tryd.pinned (.plain (OpenSpec.upto agreeMeetsSpec)) agreeMeetsUptoCard

/-- THE SECOND FORM's CARD OF 'lethelaw17.AgreePoints'. -/
def agreePointsUptoCard : Claim7 := { stood := { row := agreePointsUptoRow, standIns := [], harness := (true, "cde5f22be7243fb9b6bd708a5524aac1050ee61b6344c7935767eba6c48221aa"), looks := false }, kinds := [], alts := [], laidByText := true, laidKinds := [.data, .data, .data], laidTests := true, laidLooks := .later }
def AgreePointsUptoCardSaid : Prop := Claim7.holds Tryd.pinned (.plain (OpenSpec.upto agreePointsSpec)) agreePointsUptoCard
end Rows
end Go.Proofs.YtjclppnbbpnfnaaDoor
