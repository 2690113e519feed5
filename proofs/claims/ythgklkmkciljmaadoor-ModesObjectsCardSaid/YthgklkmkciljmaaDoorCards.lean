/-
  DERIVED. GIVEN WITH THE SEED: THE CARDS: each row of YthgklkmkciljmaaDoorRows.lean that lists a variable, with what it lists TIED to the program's text (the seventh form; the later family's looks); each row that meets fmt, with fmt's text TOLD by the authors' own Lean function (tested against real Go, not proved from fmt's source: count such statements apart). THE CARD IS WHAT COUNTS. Prove the row's statement (the work); the ties are given (YthgklkmkciljmaaDoorTie.lean); close each card by the builder's one call (the guide's Derived/Test/ToyasCard.lean, 'card_holds'). Laid BY PROGRAM, IN A SANDBOX (cutbox-door.mjs). By AI agents, Wed Nov 11 2026. No macro, syntax, notation, axiom, sorry.
-/
import Derived.Test.YthgklkmkciljmaaDoorRows
import GoSem.ClaimSeven
namespace Go.Proofs.YthgklkmkciljmaaDoor
namespace Rows

/-- THE TIED CARD OF 'stilelaw10.ModesTable'. -/
def modesTableCard : Claim7 := { stood := { row := modesTableRow, standIns := [], harness := (true, "a2cae51b8cdf6e2ff4045135897e5620280f43c9e1e5c82d3394b958df107ef8"), looks := false }, kinds := [], alts := [], laidByText := true, laidKinds := [.data, .data], laidTests := true, laidLooks := .later }
def ModesTableCardSaid : Prop := Claim7.holds Tryd.pinned (.plain (OpenSpec.ofChange modesTableSpec)) modesTableCard

/-- THE TIED CARD OF 'stilelaw10.ModesLattice'. -/
def modesLatticeCard : Claim7 := { stood := { row := modesLatticeRow, standIns := [], harness := (true, "a2cae51b8cdf6e2ff4045135897e5620280f43c9e1e5c82d3394b958df107ef8"), looks := false }, kinds := [], alts := [], laidByText := true, laidKinds := [.data, .data], laidTests := true, laidLooks := .later }
def ModesLatticeCardSaid : Prop := Claim7.holds Tryd.pinned (.plain (OpenSpec.ofChange modesLatticeSpec)) modesLatticeCard

/-- THE TIED CARD OF 'stilelaw10.ModesStronger'. -/
def modesStrongerCard : Claim7 := { stood := { row := modesStrongerRow, standIns := [], harness := (true, "a2cae51b8cdf6e2ff4045135897e5620280f43c9e1e5c82d3394b958df107ef8"), looks := false }, kinds := [], alts := [], laidByText := true, laidKinds := [.data, .data], laidTests := true, laidLooks := .later }
def ModesStrongerCardSaid : Prop := Claim7.holds Tryd.pinned (.plain (OpenSpec.ofChange modesStrongerSpec)) modesStrongerCard

/-- THE TIED CARD OF 'stilelaw10.ModesObjects'. -/
def modesObjectsCard : Claim7 := { stood := { row := modesObjectsRow, standIns := [], harness := (true, "a2cae51b8cdf6e2ff4045135897e5620280f43c9e1e5c82d3394b958df107ef8"), looks := false }, kinds := [], alts := [], laidByText := true, laidKinds := [.data, .data], laidTests := true, laidLooks := .later }
def ModesObjectsCardSaid : Prop := Claim7.holds Tryd.pinned (.plain (OpenSpec.ofChange modesObjectsSpec)) modesObjectsCard

/-- THE TIED CARD OF 'stilelaw10.ModesKeys'. -/
def modesKeysCard : Claim7 := { stood := { row := modesKeysRow, standIns := [], harness := (true, "a2cae51b8cdf6e2ff4045135897e5620280f43c9e1e5c82d3394b958df107ef8"), looks := false }, kinds := [], alts := [], laidByText := true, laidKinds := [.data, .data], laidTests := true, laidLooks := .later }
def ModesKeysCardSaid : Prop := Claim7.holds Tryd.pinned (.plain (OpenSpec.ofChange modesKeysSpec)) modesKeysCard

/-- THE TIED CARD OF 'stilelaw10.ModesWithin'. -/
def modesWithinCard : Claim7 := { stood := { row := modesWithinRow, standIns := [], harness := (true, "a2cae51b8cdf6e2ff4045135897e5620280f43c9e1e5c82d3394b958df107ef8"), looks := false }, kinds := [], alts := [], laidByText := true, laidKinds := [.data, .data], laidTests := true, laidLooks := .later }
def ModesWithinCardSaid : Prop := Claim7.holds Tryd.pinned (.plain (OpenSpec.ofChange modesWithinSpec)) modesWithinCard

/-- THE SECOND FORM's CARD OF 'stilelaw10.ModesTable'. -/
def modesTableUptoCard : Claim7 := { stood := { row := modesTableUptoRow, standIns := [], harness := (true, "a2cae51b8cdf6e2ff4045135897e5620280f43c9e1e5c82d3394b958df107ef8"), looks := false }, kinds := [], alts := [], laidByText := true, laidKinds := [.data, .data], laidTests := true, laidLooks := .later }
def ModesTableUptoCardSaid : Prop := Claim7.holds Tryd.pinned (.plain (OpenSpec.upto modesTableSpec)) modesTableUptoCard

/-- THE SECOND FORM's CARD OF 'stilelaw10.ModesLattice'. -/
def modesLatticeUptoCard : Claim7 := { stood := { row := modesLatticeUptoRow, standIns := [], harness := (true, "a2cae51b8cdf6e2ff4045135897e5620280f43c9e1e5c82d3394b958df107ef8"), looks := false }, kinds := [], alts := [], laidByText := true, laidKinds := [.data, .data], laidTests := true, laidLooks := .later }
def ModesLatticeUptoCardSaid : Prop := Claim7.holds Tryd.pinned (.plain (OpenSpec.upto modesLatticeSpec)) modesLatticeUptoCard

/-- THE SECOND FORM's CARD OF 'stilelaw10.ModesStronger'. -/
def modesStrongerUptoCard : Claim7 := { stood := { row := modesStrongerUptoRow, standIns := [], harness := (true, "a2cae51b8cdf6e2ff4045135897e5620280f43c9e1e5c82d3394b958df107ef8"), looks := false }, kinds := [], alts := [], laidByText := true, laidKinds := [.data, .data], laidTests := true, laidLooks := .later }
def ModesStrongerUptoCardSaid : Prop := Claim7.holds Tryd.pinned (.plain (OpenSpec.upto modesStrongerSpec)) modesStrongerUptoCard

/-- THE SECOND FORM's CARD OF 'stilelaw10.ModesObjects'. -/
def modesObjectsUptoCard : Claim7 := { stood := { row := modesObjectsUptoRow, standIns := [], harness := (true, "a2cae51b8cdf6e2ff4045135897e5620280f43c9e1e5c82d3394b958df107ef8"), looks := false }, kinds := [], alts := [], laidByText := true, laidKinds := [.data, .data], laidTests := true, laidLooks := .later }
def ModesObjectsUptoCardSaid : Prop := Claim7.holds Tryd.pinned (.plain (OpenSpec.upto modesObjectsSpec)) modesObjectsUptoCard

/-- THE SECOND FORM's CARD OF 'stilelaw10.ModesKeys'. -/
def modesKeysUptoCard : Claim7 := { stood := { row := modesKeysUptoRow, standIns := [], harness := (true, "a2cae51b8cdf6e2ff4045135897e5620280f43c9e1e5c82d3394b958df107ef8"), looks := false }, kinds := [], alts := [], laidByText := true, laidKinds := [.data, .data], laidTests := true, laidLooks := .later }
def ModesKeysUptoCardSaid : Prop := Claim7.holds Tryd.pinned (.plain (OpenSpec.upto modesKeysSpec)) modesKeysUptoCard

/-- THE SECOND FORM's CARD OF 'stilelaw10.ModesWithin'. -/
def modesWithinUptoCard : Claim7 := { stood := { row := modesWithinUptoRow, standIns := [], harness := (true, "a2cae51b8cdf6e2ff4045135897e5620280f43c9e1e5c82d3394b958df107ef8"), looks := false }, kinds := [], alts := [], laidByText := true, laidKinds := [.data, .data], laidTests := true, laidLooks := .later }
def ModesWithinUptoCardSaid : Prop := Claim7.holds Tryd.pinned (.plain (OpenSpec.upto modesWithinSpec)) modesWithinUptoCard
end Rows
end Go.Proofs.YthgklkmkciljmaaDoor
