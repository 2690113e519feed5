/-
  DERIVED. GIVEN WITH THE SEED: THE CARDS: each row of YtogcjflneedcfaaDoorRows.lean that lists a variable, with what it lists TIED to the program's text (the seventh form; the later family's looks); each row that meets fmt, with fmt's text TOLD by the authors' own Lean function (tested against real Go, not proved from fmt's source: count such statements apart). THE CARD IS WHAT COUNTS. Prove the row's statement (the work); the ties are given (YtogcjflneedcfaaDoorTie.lean); close each card by the builder's one call (the guide's Derived/Test/ToyasCard.lean, 'card_holds'). Laid BY PROGRAM, IN A SANDBOX (cutbox-door.mjs). By AI agents, Wed Nov 11 2026. No macro, syntax, notation, axiom, sorry.
-/
import Derived.Test.YtogcjflneedcfaaDoorRows
import GoSem.ClaimSeven
namespace Go.Proofs.YtogcjflneedcfaaDoor
namespace Rows

/-- THE TIED CARD OF 'stilelaw11.LocksOdds'. -/
def locksOddsCard : Claim7 := { stood := { row := locksOddsRow, standIns := [], harness := (true, "55c0cc91c09b63c4d7866d784971cd2530a3d5facec1ebffaa650886c7e11cbd"), looks := false }, kinds := [], alts := [], laidByText := true, laidKinds := [.data, .data], laidTests := true, laidLooks := .later }
def LocksOddsCardSaid : Prop := Claim7.holds Tryd.pinned (.plain (OpenSpec.ofChange locksOddsSpec)) locksOddsCard

/-- THE TIED CARD OF 'stilelaw11.LocksShort'. -/
def locksShortCard : Claim7 := { stood := { row := locksShortRow, standIns := [], harness := (true, "55c0cc91c09b63c4d7866d784971cd2530a3d5facec1ebffaa650886c7e11cbd"), looks := false }, kinds := [], alts := [], laidByText := true, laidKinds := [.data, .data], laidTests := true, laidLooks := .later }
def LocksShortCardSaid : Prop := Claim7.holds Tryd.pinned (.plain (OpenSpec.ofChange locksShortSpec)) locksShortCard

/-- THE TIED CARD OF 'stilelaw11.LocksFirst'. -/
def locksFirstCard : Claim7 := { stood := { row := locksFirstRow, standIns := [], harness := (true, "55c0cc91c09b63c4d7866d784971cd2530a3d5facec1ebffaa650886c7e11cbd"), looks := false }, kinds := [], alts := [], laidByText := true, laidKinds := [.data, .data], laidTests := true, laidLooks := .later }
def LocksFirstCardSaid : Prop := Claim7.holds Tryd.pinned (.plain (OpenSpec.ofChange locksFirstSpec)) locksFirstCard

/-- THE TIED CARD OF 'stilelaw11.LocksAgain'. -/
def locksAgainCard : Claim7 := { stood := { row := locksAgainRow, standIns := [], harness := (true, "55c0cc91c09b63c4d7866d784971cd2530a3d5facec1ebffaa650886c7e11cbd"), looks := false }, kinds := [], alts := [], laidByText := true, laidKinds := [.data, .data], laidTests := true, laidLooks := .later }
def LocksAgainCardSaid : Prop := Claim7.holds Tryd.pinned (.plain (OpenSpec.ofChange locksAgainSpec)) locksAgainCard

/-- THE TIED CARD OF 'stilelaw11.LocksApart'. -/
def locksApartCard : Claim7 := { stood := { row := locksApartRow, standIns := [], harness := (true, "55c0cc91c09b63c4d7866d784971cd2530a3d5facec1ebffaa650886c7e11cbd"), looks := false }, kinds := [], alts := [], laidByText := true, laidKinds := [.data, .data], laidTests := true, laidLooks := .later }
def LocksApartCardSaid : Prop := Claim7.holds Tryd.pinned (.plain (OpenSpec.ofChange locksApartSpec)) locksApartCard

/-- THE TIED CARD OF 'stilelaw11.LocksPlays'. -/
def locksPlaysCard : Claim7 := { stood := { row := locksPlaysRow, standIns := [], harness := (true, "55c0cc91c09b63c4d7866d784971cd2530a3d5facec1ebffaa650886c7e11cbd"), looks := false }, kinds := [], alts := [], laidByText := true, laidKinds := [.data, .data], laidTests := true, laidLooks := .later }
def LocksPlaysCardSaid : Prop := Claim7.holds Tryd.pinned (.plain (OpenSpec.ofChange locksPlaysSpec)) locksPlaysCard

/-- THE TIED CARD OF 'stilelaw11.LocksWhy'. -/
def locksWhyCard : Claim7 := { stood := { row := locksWhyRow, standIns := [], harness := (true, "55c0cc91c09b63c4d7866d784971cd2530a3d5facec1ebffaa650886c7e11cbd"), looks := false }, kinds := [], alts := [], laidByText := true, laidKinds := [.data, .data], laidTests := true, laidLooks := .later }
def LocksWhyCardSaid : Prop := Claim7.holds Tryd.pinned (.plain (OpenSpec.ofChange locksWhySpec)) locksWhyCard

/-- THE TIED CARD OF 'stilelaw11.LocksNil'. -/
def locksNilCard : Claim7 := { stood := { row := locksNilRow, standIns := [], harness := (true, "55c0cc91c09b63c4d7866d784971cd2530a3d5facec1ebffaa650886c7e11cbd"), looks := false }, kinds := [], alts := [], laidByText := true, laidKinds := [.data, .data], laidTests := true, laidLooks := .later }
def LocksNilCardSaid : Prop := Claim7.holds Tryd.pinned (.plain (OpenSpec.ofChange locksNilSpec)) locksNilCard

/-- THE SECOND FORM's CARD OF 'stilelaw11.LocksOdds'. -/
def locksOddsUptoCard : Claim7 := { stood := { row := locksOddsUptoRow, standIns := [], harness := (true, "55c0cc91c09b63c4d7866d784971cd2530a3d5facec1ebffaa650886c7e11cbd"), looks := false }, kinds := [], alts := [], laidByText := true, laidKinds := [.data, .data], laidTests := true, laidLooks := .later }
def LocksOddsUptoCardSaid : Prop := Claim7.holds Tryd.pinned (.plain (OpenSpec.upto locksOddsSpec)) locksOddsUptoCard

/-- THE SECOND FORM's CARD OF 'stilelaw11.LocksShort'. -/
def locksShortUptoCard : Claim7 := { stood := { row := locksShortUptoRow, standIns := [], harness := (true, "55c0cc91c09b63c4d7866d784971cd2530a3d5facec1ebffaa650886c7e11cbd"), looks := false }, kinds := [], alts := [], laidByText := true, laidKinds := [.data, .data], laidTests := true, laidLooks := .later }
def LocksShortUptoCardSaid : Prop := Claim7.holds Tryd.pinned (.plain (OpenSpec.upto locksShortSpec)) locksShortUptoCard

/-- THE SECOND FORM's CARD OF 'stilelaw11.LocksFirst'. -/
def locksFirstUptoCard : Claim7 := { stood := { row := locksFirstUptoRow, standIns := [], harness := (true, "55c0cc91c09b63c4d7866d784971cd2530a3d5facec1ebffaa650886c7e11cbd"), looks := false }, kinds := [], alts := [], laidByText := true, laidKinds := [.data, .data], laidTests := true, laidLooks := .later }
def LocksFirstUptoCardSaid : Prop := Claim7.holds Tryd.pinned (.plain (OpenSpec.upto locksFirstSpec)) locksFirstUptoCard

/-- THE SECOND FORM's CARD OF 'stilelaw11.LocksAgain'. -/
def locksAgainUptoCard : Claim7 := { stood := { row := locksAgainUptoRow, standIns := [], harness := (true, "55c0cc91c09b63c4d7866d784971cd2530a3d5facec1ebffaa650886c7e11cbd"), looks := false }, kinds := [], alts := [], laidByText := true, laidKinds := [.data, .data], laidTests := true, laidLooks := .later }
def LocksAgainUptoCardSaid : Prop := Claim7.holds Tryd.pinned (.plain (OpenSpec.upto locksAgainSpec)) locksAgainUptoCard

/-- THE SECOND FORM's CARD OF 'stilelaw11.LocksApart'. -/
def locksApartUptoCard : Claim7 := { stood := { row := locksApartUptoRow, standIns := [], harness := (true, "55c0cc91c09b63c4d7866d784971cd2530a3d5facec1ebffaa650886c7e11cbd"), looks := false }, kinds := [], alts := [], laidByText := true, laidKinds := [.data, .data], laidTests := true, laidLooks := .later }
def LocksApartUptoCardSaid : Prop := Claim7.holds Tryd.pinned (.plain (OpenSpec.upto locksApartSpec)) locksApartUptoCard

/-- THE SECOND FORM's CARD OF 'stilelaw11.LocksPlays'. -/
def locksPlaysUptoCard : Claim7 := { stood := { row := locksPlaysUptoRow, standIns := [], harness := (true, "55c0cc91c09b63c4d7866d784971cd2530a3d5facec1ebffaa650886c7e11cbd"), looks := false }, kinds := [], alts := [], laidByText := true, laidKinds := [.data, .data], laidTests := true, laidLooks := .later }
def LocksPlaysUptoCardSaid : Prop := Claim7.holds Tryd.pinned (.plain (OpenSpec.upto locksPlaysSpec)) locksPlaysUptoCard

/-- THE SECOND FORM's CARD OF 'stilelaw11.LocksWhy'. -/
def locksWhyUptoCard : Claim7 := { stood := { row := locksWhyUptoRow, standIns := [], harness := (true, "55c0cc91c09b63c4d7866d784971cd2530a3d5facec1ebffaa650886c7e11cbd"), looks := false }, kinds := [], alts := [], laidByText := true, laidKinds := [.data, .data], laidTests := true, laidLooks := .later }
def LocksWhyUptoCardSaid : Prop := Claim7.holds Tryd.pinned (.plain (OpenSpec.upto locksWhySpec)) locksWhyUptoCard

/-- THE SECOND FORM's CARD OF 'stilelaw11.LocksNil'. -/
def locksNilUptoCard : Claim7 := { stood := { row := locksNilUptoRow, standIns := [], harness := (true, "55c0cc91c09b63c4d7866d784971cd2530a3d5facec1ebffaa650886c7e11cbd"), looks := false }, kinds := [], alts := [], laidByText := true, laidKinds := [.data, .data], laidTests := true, laidLooks := .later }
def LocksNilUptoCardSaid : Prop := Claim7.holds Tryd.pinned (.plain (OpenSpec.upto locksNilSpec)) locksNilUptoCard
end Rows
end Go.Proofs.YtogcjflneedcfaaDoor
