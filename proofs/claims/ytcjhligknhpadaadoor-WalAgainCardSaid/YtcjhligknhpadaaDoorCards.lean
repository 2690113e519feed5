/-
  DERIVED. GIVEN WITH THE SEED: THE CARDS: each row of YtcjhligknhpadaaDoorRows.lean that lists a variable, with what it lists TIED to the program's text (the seventh form; the later family's looks); each row that meets fmt, with fmt's text TOLD by the authors' own Lean function (tested against real Go, not proved from fmt's source: count such statements apart). THE CARD IS WHAT COUNTS. Prove the row's statement (the work); the ties are given (YtcjhligknhpadaaDoorTie.lean); close each card by the builder's one call (the guide's Derived/Test/ToyasCard.lean, 'card_holds'). Laid BY PROGRAM, IN A SANDBOX (cutbox-door.mjs). By AI agents, Wed Nov 11 2026. No macro, syntax, notation, axiom, sorry.
-/
import Derived.Test.YtcjhligknhpadaaDoorRows
import GoSem.ClaimSeven
namespace Go.Proofs.YtcjhligknhpadaaDoor
namespace Rows

/-- THE TIED CARD OF 'stilelaw06.WalNil'. -/
def walNilCard : Claim7 := { stood := { row := walNilRow, standIns := [], harness := (true, "6a1a86fed177641a7e78f809bb2b16f35bc0b4e9e069c98eea2c6f41fe9c16fb"), looks := true }, kinds := [], alts := [], laidByText := true, laidKinds := [.data, .data, .pinned], laidTests := true, laidLooks := .later }
def WalNilCardSaid : Prop := Claim7.holds Tryd.pinned (.plain (OpenSpec.ofChange walNilSpec)) walNilCard

/-- THE TIED CARD OF 'stilelaw06.WalPlays'. -/
def walPlaysCard : Claim7 := { stood := { row := walPlaysRow, standIns := [], harness := (true, "6a1a86fed177641a7e78f809bb2b16f35bc0b4e9e069c98eea2c6f41fe9c16fb"), looks := true }, kinds := [], alts := [], laidByText := true, laidKinds := [.data, .data, .pinned], laidTests := true, laidLooks := .later }
def WalPlaysCardSaid : Prop := Claim7.holds Tryd.pinned (.plain (OpenSpec.ofChange walPlaysSpec)) walPlaysCard

/-- THE TIED CARD OF 'stilelaw06.WalGoes'. -/
def walGoesCard : Claim7 := { stood := { row := walGoesRow, standIns := [], harness := (true, "6a1a86fed177641a7e78f809bb2b16f35bc0b4e9e069c98eea2c6f41fe9c16fb"), looks := true }, kinds := [], alts := [], laidByText := true, laidKinds := [.data, .data, .pinned], laidTests := true, laidLooks := .later }
def WalGoesCardSaid : Prop := Claim7.holds Tryd.pinned (.plain (OpenSpec.ofChange walGoesSpec)) walGoesCard

/-- THE TIED CARD OF 'stilelaw06.WalAgain'. -/
def walAgainCard : Claim7 := { stood := { row := walAgainRow, standIns := [], harness := (true, "6a1a86fed177641a7e78f809bb2b16f35bc0b4e9e069c98eea2c6f41fe9c16fb"), looks := true }, kinds := [], alts := [], laidByText := true, laidKinds := [.data, .data, .pinned], laidTests := true, laidLooks := .later }
def WalAgainCardSaid : Prop := Claim7.holds Tryd.pinned (.plain (OpenSpec.ofChange walAgainSpec)) walAgainCard

/-- THE TIED CARD OF 'stilelaw06.WalWhole'. -/
def walWholeCard : Claim7 := { stood := { row := walWholeRow, standIns := [], harness := (true, "6a1a86fed177641a7e78f809bb2b16f35bc0b4e9e069c98eea2c6f41fe9c16fb"), looks := true }, kinds := [], alts := [], laidByText := true, laidKinds := [.data, .data, .pinned], laidTests := true, laidLooks := .later }
def WalWholeCardSaid : Prop := Claim7.holds Tryd.pinned (.plain (OpenSpec.ofChange walWholeSpec)) walWholeCard

/-- THE SECOND FORM's CARD OF 'stilelaw06.WalNil'. -/
def walNilUptoCard : Claim7 := { stood := { row := walNilUptoRow, standIns := [], harness := (true, "6a1a86fed177641a7e78f809bb2b16f35bc0b4e9e069c98eea2c6f41fe9c16fb"), looks := true }, kinds := [], alts := [], laidByText := true, laidKinds := [.data, .data, .pinned], laidTests := true, laidLooks := .later }
def WalNilUptoCardSaid : Prop := Claim7.holds Tryd.pinned (.plain (OpenSpec.upto walNilSpec)) walNilUptoCard

/-- THE SECOND FORM's CARD OF 'stilelaw06.WalPlays'. -/
def walPlaysUptoCard : Claim7 := { stood := { row := walPlaysUptoRow, standIns := [], harness := (true, "6a1a86fed177641a7e78f809bb2b16f35bc0b4e9e069c98eea2c6f41fe9c16fb"), looks := true }, kinds := [], alts := [], laidByText := true, laidKinds := [.data, .data, .pinned], laidTests := true, laidLooks := .later }
def WalPlaysUptoCardSaid : Prop := Claim7.holds Tryd.pinned (.plain (OpenSpec.upto walPlaysSpec)) walPlaysUptoCard

/-- THE SECOND FORM's CARD OF 'stilelaw06.WalGoes'. -/
def walGoesUptoCard : Claim7 := { stood := { row := walGoesUptoRow, standIns := [], harness := (true, "6a1a86fed177641a7e78f809bb2b16f35bc0b4e9e069c98eea2c6f41fe9c16fb"), looks := true }, kinds := [], alts := [], laidByText := true, laidKinds := [.data, .data, .pinned], laidTests := true, laidLooks := .later }
def WalGoesUptoCardSaid : Prop := Claim7.holds Tryd.pinned (.plain (OpenSpec.upto walGoesSpec)) walGoesUptoCard

/-- THE SECOND FORM's CARD OF 'stilelaw06.WalAgain'. -/
def walAgainUptoCard : Claim7 := { stood := { row := walAgainUptoRow, standIns := [], harness := (true, "6a1a86fed177641a7e78f809bb2b16f35bc0b4e9e069c98eea2c6f41fe9c16fb"), looks := true }, kinds := [], alts := [], laidByText := true, laidKinds := [.data, .data, .pinned], laidTests := true, laidLooks := .later }
def WalAgainUptoCardSaid : Prop := Claim7.holds Tryd.pinned (.plain (OpenSpec.upto walAgainSpec)) walAgainUptoCard

/-- THE SECOND FORM's CARD OF 'stilelaw06.WalWhole'. -/
def walWholeUptoCard : Claim7 := { stood := { row := walWholeUptoRow, standIns := [], harness := (true, "6a1a86fed177641a7e78f809bb2b16f35bc0b4e9e069c98eea2c6f41fe9c16fb"), looks := true }, kinds := [], alts := [], laidByText := true, laidKinds := [.data, .data, .pinned], laidTests := true, laidLooks := .later }
def WalWholeUptoCardSaid : Prop := Claim7.holds Tryd.pinned (.plain (OpenSpec.upto walWholeSpec)) walWholeUptoCard
end Rows
end Go.Proofs.YtcjhligknhpadaaDoor
