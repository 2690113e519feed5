/-
  NARROWER THAN 'FOR EVERY INPUT', by the rows' own cells (each row's printed sentence says how): LocksOdds: laid · LocksShort: laid · LocksFirst: laid · LocksAgain: laid · LocksApart: laid · LocksPlays: laid · LocksWhy: laid · LocksNil: laid.
  DERIVED. THE GIVEN ROWS OF THIS SEAT. 8 by the template 'for every input the law returns true; each argument reads behind the call as it read before'; 0 by the template 'total and deterministic' (their statements: YtogcjflneedcfaaDoorTotals.lean).
  GIVEN WITH THE SEED: the statements are not yours to turn. If you find one false, say at which input.
  Laid BY PROGRAM, IN A SANDBOX (cutbox-rows.mjs): the forced cells as the released guide's own fill.sh prints them over the translation 38e4ba5fc7e9a046… (all of the seat's roots in one cut). By AI agents, Wed Nov 11 2026. No macro, syntax, notation, axiom, sorry.
-/
import Derived.Test.YtogcjflneedcfaaDoorChecked
import GoSem.Claim
import GoSem.ClaimJoined
import GoSem.ClaimMapViews
import Derived.JoinedTies
import Derived.KernelRfl
namespace Go.Proofs.YtogcjflneedcfaaDoor
/- THE CELL 'sum', in the pinned program and in every row, IS THE sha256 OF THE DUMP (.gsa) THAT YtogcjflneedcfaaDoorProg.lean LOADS. Nothing in Lean hashes anything: it is a label: what it is worth is what the hold of that sum in a sandbox is worth. -/
noncomputable def Tryd.pinned : Pinned := { name := "ytogcjflneedcfaadoor", sum := "38e4ba5fc7e9a046fa97718216c80a840be425991d074d6af7d06bead523e724", checked := Tryd.checked }
namespace Rows
def none {H : Type} : Left H := { results := [], args := [] }

/- WHAT THE LISTED PACKAGE-LEVEL VARIABLES READ AS WHEN THE CALL BEGINS. Each datum BY PROGRAM (the guide's laid-datum.mjs) off the statement by which the dump's own 'gosem.cut.vars' lays the variable. In a bare row this is a premise. The card (YtogcjflneedcfaaDoorCards.lean) ties it to the program's text. -/
def laid_stile_modes_fits {H : Type} : DataW H := .agg [.agg [.lit (.bool true), .lit (.bool true), .lit (.bool true), .lit (.bool true), .lit (.bool true), .lit (.bool true), .lit (.bool true)], .agg [.lit (.bool true), .lit (.bool true), .lit (.bool true), .lit (.bool true), .lit (.bool true), .lit (.bool true), .lit (.bool false)], .agg [.lit (.bool true), .lit (.bool true), .lit (.bool true), .lit (.bool false), .lit (.bool false), .lit (.bool false), .lit (.bool false)], .agg [.lit (.bool true), .lit (.bool true), .lit (.bool false), .lit (.bool true), .lit (.bool false), .lit (.bool true), .lit (.bool false)], .agg [.lit (.bool true), .lit (.bool true), .lit (.bool false), .lit (.bool false), .lit (.bool false), .lit (.bool false), .lit (.bool false)], .agg [.lit (.bool true), .lit (.bool true), .lit (.bool false), .lit (.bool false), .lit (.bool false), .lit (.bool false), .lit (.bool false)], .agg [.lit (.bool true), .lit (.bool false), .lit (.bool false), .lit (.bool false), .lit (.bool false), .lit (.bool false), .lit (.bool false)]]
def laid_stile_modes_covers {H : Type} : DataW H := .agg [.lit (.int .u64 1), .lit (.int .u64 3), .lit (.int .u64 7), .lit (.int .u64 11), .lit (.int .u64 31), .lit (.int .u64 43), .lit (.int .u64 127)]

/-- 'stilelaw11.LocksOdds': WHATEVER THE INPUT: true; the input reads as it did. -/
def locksOddsSpec : ChangeSpec := { name := "locksOdds", fn := fun _ => fun
  | [d] => { results := [.lit (.bool true)], args := [d] }
  | _ => none }
def locksOddsRow : OpenClaim := { program := "ytogcjflneedcfaadoor", sum := "38e4ba5fc7e9a046fa97718216c80a840be425991d074d6af7d06bead523e724", func := "stile/stilelaw11.LocksOdds", spec := "locksOdds", unfollowed := true, recurses := true, named := ["stile/modes.covers", "stile/modes.fits"], apart := false, laid := [("stile/modes.fits", laid_stile_modes_fits), ("stile/modes.covers", laid_stile_modes_covers)] }
def LocksOddsSaid : Prop := locksOddsRow.holds Tryd.pinned (OpenSpec.ofChange locksOddsSpec)

/-- ITS FALSE NEIGHBOUR: 'it returns false'. Refute it at one input. -/
def locksOddsWrong : ChangeSpec := { name := "locksOdds", fn := fun _ => fun
  | [d] => { results := [.lit (.bool false)], args := [d] }
  | _ => none }
def LocksOddsWrongFalsely : Prop := locksOddsRow.holds Tryd.pinned (OpenSpec.ofChange locksOddsWrong)

/-- 'stilelaw11.LocksShort': WHATEVER THE INPUT: true; the input reads as it did. -/
def locksShortSpec : ChangeSpec := { name := "locksShort", fn := fun _ => fun
  | [d1, d2] => { results := [.lit (.bool true)], args := [d1, d2] }
  | _ => none }
def locksShortRow : OpenClaim := { program := "ytogcjflneedcfaadoor", sum := "38e4ba5fc7e9a046fa97718216c80a840be425991d074d6af7d06bead523e724", func := "stile/stilelaw11.LocksShort", spec := "locksShort", unfollowed := true, recurses := true, named := ["stile/modes.covers", "stile/modes.fits"], apart := false, laid := [("stile/modes.fits", laid_stile_modes_fits), ("stile/modes.covers", laid_stile_modes_covers)] }
def LocksShortSaid : Prop := locksShortRow.holds Tryd.pinned (OpenSpec.ofChange locksShortSpec)

/-- ITS FALSE NEIGHBOUR: 'it returns false'. Refute it at one input. -/
def locksShortWrong : ChangeSpec := { name := "locksShort", fn := fun _ => fun
  | [d1, d2] => { results := [.lit (.bool false)], args := [d1, d2] }
  | _ => none }
def LocksShortWrongFalsely : Prop := locksShortRow.holds Tryd.pinned (OpenSpec.ofChange locksShortWrong)

/-- 'stilelaw11.LocksFirst': WHATEVER THE INPUT: true; the input reads as it did. -/
def locksFirstSpec : ChangeSpec := { name := "locksFirst", fn := fun _ => fun
  | [d] => { results := [.lit (.bool true)], args := [d] }
  | _ => none }
def locksFirstRow : OpenClaim := { program := "ytogcjflneedcfaadoor", sum := "38e4ba5fc7e9a046fa97718216c80a840be425991d074d6af7d06bead523e724", func := "stile/stilelaw11.LocksFirst", spec := "locksFirst", unfollowed := true, recurses := true, named := ["stile/modes.covers", "stile/modes.fits"], apart := false, laid := [("stile/modes.fits", laid_stile_modes_fits), ("stile/modes.covers", laid_stile_modes_covers)] }
def LocksFirstSaid : Prop := locksFirstRow.holds Tryd.pinned (OpenSpec.ofChange locksFirstSpec)

/-- ITS FALSE NEIGHBOUR: 'it returns false'. Refute it at one input. -/
def locksFirstWrong : ChangeSpec := { name := "locksFirst", fn := fun _ => fun
  | [d] => { results := [.lit (.bool false)], args := [d] }
  | _ => none }
def LocksFirstWrongFalsely : Prop := locksFirstRow.holds Tryd.pinned (OpenSpec.ofChange locksFirstWrong)

/-- 'stilelaw11.LocksAgain': WHATEVER THE INPUT: true; the input reads as it did. -/
def locksAgainSpec : ChangeSpec := { name := "locksAgain", fn := fun _ => fun
  | [d] => { results := [.lit (.bool true)], args := [d] }
  | _ => none }
def locksAgainRow : OpenClaim := { program := "ytogcjflneedcfaadoor", sum := "38e4ba5fc7e9a046fa97718216c80a840be425991d074d6af7d06bead523e724", func := "stile/stilelaw11.LocksAgain", spec := "locksAgain", unfollowed := true, recurses := true, named := ["stile/modes.covers", "stile/modes.fits"], apart := false, laid := [("stile/modes.fits", laid_stile_modes_fits), ("stile/modes.covers", laid_stile_modes_covers)] }
def LocksAgainSaid : Prop := locksAgainRow.holds Tryd.pinned (OpenSpec.ofChange locksAgainSpec)

/-- ITS FALSE NEIGHBOUR: 'it returns false'. Refute it at one input. -/
def locksAgainWrong : ChangeSpec := { name := "locksAgain", fn := fun _ => fun
  | [d] => { results := [.lit (.bool false)], args := [d] }
  | _ => none }
def LocksAgainWrongFalsely : Prop := locksAgainRow.holds Tryd.pinned (OpenSpec.ofChange locksAgainWrong)

/-- 'stilelaw11.LocksApart': WHATEVER THE INPUT: true; the input reads as it did. -/
def locksApartSpec : ChangeSpec := { name := "locksApart", fn := fun _ => fun
  | [d1, d2] => { results := [.lit (.bool true)], args := [d1, d2] }
  | _ => none }
def locksApartRow : OpenClaim := { program := "ytogcjflneedcfaadoor", sum := "38e4ba5fc7e9a046fa97718216c80a840be425991d074d6af7d06bead523e724", func := "stile/stilelaw11.LocksApart", spec := "locksApart", unfollowed := true, recurses := true, named := ["stile/modes.covers", "stile/modes.fits"], apart := false, laid := [("stile/modes.fits", laid_stile_modes_fits), ("stile/modes.covers", laid_stile_modes_covers)] }
def LocksApartSaid : Prop := locksApartRow.holds Tryd.pinned (OpenSpec.ofChange locksApartSpec)

/-- ITS FALSE NEIGHBOUR: 'it returns false'. Refute it at one input. -/
def locksApartWrong : ChangeSpec := { name := "locksApart", fn := fun _ => fun
  | [d1, d2] => { results := [.lit (.bool false)], args := [d1, d2] }
  | _ => none }
def LocksApartWrongFalsely : Prop := locksApartRow.holds Tryd.pinned (OpenSpec.ofChange locksApartWrong)

/-- 'stilelaw11.LocksPlays': WHATEVER THE INPUT: true; the input reads as it did. -/
def locksPlaysSpec : ChangeSpec := { name := "locksPlays", fn := fun _ => fun
  | [d1, d2] => { results := [.lit (.bool true)], args := [d1, d2] }
  | _ => none }
def locksPlaysRow : OpenClaim := { program := "ytogcjflneedcfaadoor", sum := "38e4ba5fc7e9a046fa97718216c80a840be425991d074d6af7d06bead523e724", func := "stile/stilelaw11.LocksPlays", spec := "locksPlays", unfollowed := true, recurses := true, named := ["stile/modes.covers", "stile/modes.fits"], apart := false, laid := [("stile/modes.fits", laid_stile_modes_fits), ("stile/modes.covers", laid_stile_modes_covers)] }
def LocksPlaysSaid : Prop := locksPlaysRow.holds Tryd.pinned (OpenSpec.ofChange locksPlaysSpec)

/-- ITS FALSE NEIGHBOUR: 'it returns false'. Refute it at one input. -/
def locksPlaysWrong : ChangeSpec := { name := "locksPlays", fn := fun _ => fun
  | [d1, d2] => { results := [.lit (.bool false)], args := [d1, d2] }
  | _ => none }
def LocksPlaysWrongFalsely : Prop := locksPlaysRow.holds Tryd.pinned (OpenSpec.ofChange locksPlaysWrong)

/-- 'stilelaw11.LocksWhy': WHATEVER THE INPUT: true; the input reads as it did. -/
def locksWhySpec : ChangeSpec := { name := "locksWhy", fn := fun _ => fun
  | [d1, d2] => { results := [.lit (.bool true)], args := [d1, d2] }
  | _ => none }
def locksWhyRow : OpenClaim := { program := "ytogcjflneedcfaadoor", sum := "38e4ba5fc7e9a046fa97718216c80a840be425991d074d6af7d06bead523e724", func := "stile/stilelaw11.LocksWhy", spec := "locksWhy", unfollowed := true, recurses := true, named := ["stile/modes.covers", "stile/modes.fits"], apart := false, laid := [("stile/modes.fits", laid_stile_modes_fits), ("stile/modes.covers", laid_stile_modes_covers)] }
def LocksWhySaid : Prop := locksWhyRow.holds Tryd.pinned (OpenSpec.ofChange locksWhySpec)

/-- ITS FALSE NEIGHBOUR: 'it returns false'. Refute it at one input. -/
def locksWhyWrong : ChangeSpec := { name := "locksWhy", fn := fun _ => fun
  | [d1, d2] => { results := [.lit (.bool false)], args := [d1, d2] }
  | _ => none }
def LocksWhyWrongFalsely : Prop := locksWhyRow.holds Tryd.pinned (OpenSpec.ofChange locksWhyWrong)

/-- 'stilelaw11.LocksNil': WHATEVER THE INPUT: true; the input reads as it did. -/
def locksNilSpec : ChangeSpec := { name := "locksNil", fn := fun _ => fun
  | [d1, d2] => { results := [.lit (.bool true)], args := [d1, d2] }
  | _ => none }
def locksNilRow : OpenClaim := { program := "ytogcjflneedcfaadoor", sum := "38e4ba5fc7e9a046fa97718216c80a840be425991d074d6af7d06bead523e724", func := "stile/stilelaw11.LocksNil", spec := "locksNil", unfollowed := true, recurses := true, named := ["stile/modes.covers", "stile/modes.fits"], apart := false, laid := [("stile/modes.fits", laid_stile_modes_fits), ("stile/modes.covers", laid_stile_modes_covers)] }
def LocksNilSaid : Prop := locksNilRow.holds Tryd.pinned (OpenSpec.ofChange locksNilSpec)

/-- ITS FALSE NEIGHBOUR: 'it returns false'. Refute it at one input. -/
def locksNilWrong : ChangeSpec := { name := "locksNil", fn := fun _ => fun
  | [d1, d2] => { results := [.lit (.bool false)], args := [d1, d2] }
  | _ => none }
def LocksNilWrongFalsely : Prop := locksNilRow.holds Tryd.pinned (OpenSpec.ofChange locksNilWrong)

/- THE SECOND FORM. 'bulk': how many values and letters a reading holds, each counted each time it is reached (what is shared counts as often as it is met; a slice's spare places count too). A statement '..UptoSaid' is the law's where the arguments, and the package variables that the reading takes, are together of bulk at most 1048576: NARROWER than '..Said'. Prove '..Said' where nothing that the law and all that it calls make is longer than what came in: it says more and counts as full. Else prove '..UptoSaid'. A law counts once. -/
mutual
def uptoBulk {H : Type} : DataW H → Nat
  | .lit (.string bytes) => bytes.length + 1
  | .lit _ => 1
  | .nil => 1
  | .ptr d => uptoBulk d + 1
  | .slice elems spare => uptoBulkAll elems + uptoBulkAll spare + 1
  | .agg parts => uptoBulkAll parts + 1
  | .iface _ d => uptoBulk d + 1
  | .map entries => uptoBulkEntries entries + 1
  | .held _ => 1
def uptoBulkAll {H : Type} : List (DataW H) → Nat
  | [] => 0
  | d :: r => uptoBulk d + uptoBulkAll r
def uptoBulkEntries {H : Type} : List (Lit × DataW H) → Nat
  | [] => 0
  | x :: r => uptoBulkEntry x + uptoBulkEntries r
def uptoBulkEntry {H : Type} : Lit × DataW H → Nat
  | (.string bytes, d) => bytes.length + uptoBulk d + 1
  | (_, d) => uptoBulk d + 1
 end
def uptoSmall : (H : Type) → List (DataW H) → Bool := fun _ ds => decide (uptoBulkAll ds ≤ 1048576)
def OpenSpec.upto (s : _root_.Go.ChangeSpec) : _root_.Go.OpenSpec := { _root_.Go.OpenSpec.ofChange s with cond := some uptoSmall }

/-- 'stilelaw11.LocksOdds', WHERE WHAT IT READS IS OF BULK AT MOST 1048576: true; the input reads as it did. -/
def locksOddsUptoRow : OpenClaim := { program := "ytogcjflneedcfaadoor", sum := "38e4ba5fc7e9a046fa97718216c80a840be425991d074d6af7d06bead523e724", func := "stile/stilelaw11.LocksOdds", spec := "locksOdds", unfollowed := true, recurses := true, named := ["stile/modes.covers", "stile/modes.fits"], apart := false, laid := [("stile/modes.fits", laid_stile_modes_fits), ("stile/modes.covers", laid_stile_modes_covers)], narrowed := true }
def LocksOddsUptoSaid : Prop := locksOddsUptoRow.holds Tryd.pinned (OpenSpec.upto locksOddsSpec)

/-- 'stilelaw11.LocksShort', WHERE WHAT IT READS IS OF BULK AT MOST 1048576: true; the input reads as it did. -/
def locksShortUptoRow : OpenClaim := { program := "ytogcjflneedcfaadoor", sum := "38e4ba5fc7e9a046fa97718216c80a840be425991d074d6af7d06bead523e724", func := "stile/stilelaw11.LocksShort", spec := "locksShort", unfollowed := true, recurses := true, named := ["stile/modes.covers", "stile/modes.fits"], apart := false, laid := [("stile/modes.fits", laid_stile_modes_fits), ("stile/modes.covers", laid_stile_modes_covers)], narrowed := true }
def LocksShortUptoSaid : Prop := locksShortUptoRow.holds Tryd.pinned (OpenSpec.upto locksShortSpec)

/-- 'stilelaw11.LocksFirst', WHERE WHAT IT READS IS OF BULK AT MOST 1048576: true; the input reads as it did. -/
def locksFirstUptoRow : OpenClaim := { program := "ytogcjflneedcfaadoor", sum := "38e4ba5fc7e9a046fa97718216c80a840be425991d074d6af7d06bead523e724", func := "stile/stilelaw11.LocksFirst", spec := "locksFirst", unfollowed := true, recurses := true, named := ["stile/modes.covers", "stile/modes.fits"], apart := false, laid := [("stile/modes.fits", laid_stile_modes_fits), ("stile/modes.covers", laid_stile_modes_covers)], narrowed := true }
def LocksFirstUptoSaid : Prop := locksFirstUptoRow.holds Tryd.pinned (OpenSpec.upto locksFirstSpec)

/-- 'stilelaw11.LocksAgain', WHERE WHAT IT READS IS OF BULK AT MOST 1048576: true; the input reads as it did. -/
def locksAgainUptoRow : OpenClaim := { program := "ytogcjflneedcfaadoor", sum := "38e4ba5fc7e9a046fa97718216c80a840be425991d074d6af7d06bead523e724", func := "stile/stilelaw11.LocksAgain", spec := "locksAgain", unfollowed := true, recurses := true, named := ["stile/modes.covers", "stile/modes.fits"], apart := false, laid := [("stile/modes.fits", laid_stile_modes_fits), ("stile/modes.covers", laid_stile_modes_covers)], narrowed := true }
def LocksAgainUptoSaid : Prop := locksAgainUptoRow.holds Tryd.pinned (OpenSpec.upto locksAgainSpec)

/-- 'stilelaw11.LocksApart', WHERE WHAT IT READS IS OF BULK AT MOST 1048576: true; the input reads as it did. -/
def locksApartUptoRow : OpenClaim := { program := "ytogcjflneedcfaadoor", sum := "38e4ba5fc7e9a046fa97718216c80a840be425991d074d6af7d06bead523e724", func := "stile/stilelaw11.LocksApart", spec := "locksApart", unfollowed := true, recurses := true, named := ["stile/modes.covers", "stile/modes.fits"], apart := false, laid := [("stile/modes.fits", laid_stile_modes_fits), ("stile/modes.covers", laid_stile_modes_covers)], narrowed := true }
def LocksApartUptoSaid : Prop := locksApartUptoRow.holds Tryd.pinned (OpenSpec.upto locksApartSpec)

/-- 'stilelaw11.LocksPlays', WHERE WHAT IT READS IS OF BULK AT MOST 1048576: true; the input reads as it did. -/
def locksPlaysUptoRow : OpenClaim := { program := "ytogcjflneedcfaadoor", sum := "38e4ba5fc7e9a046fa97718216c80a840be425991d074d6af7d06bead523e724", func := "stile/stilelaw11.LocksPlays", spec := "locksPlays", unfollowed := true, recurses := true, named := ["stile/modes.covers", "stile/modes.fits"], apart := false, laid := [("stile/modes.fits", laid_stile_modes_fits), ("stile/modes.covers", laid_stile_modes_covers)], narrowed := true }
def LocksPlaysUptoSaid : Prop := locksPlaysUptoRow.holds Tryd.pinned (OpenSpec.upto locksPlaysSpec)

/-- 'stilelaw11.LocksWhy', WHERE WHAT IT READS IS OF BULK AT MOST 1048576: true; the input reads as it did. -/
def locksWhyUptoRow : OpenClaim := { program := "ytogcjflneedcfaadoor", sum := "38e4ba5fc7e9a046fa97718216c80a840be425991d074d6af7d06bead523e724", func := "stile/stilelaw11.LocksWhy", spec := "locksWhy", unfollowed := true, recurses := true, named := ["stile/modes.covers", "stile/modes.fits"], apart := false, laid := [("stile/modes.fits", laid_stile_modes_fits), ("stile/modes.covers", laid_stile_modes_covers)], narrowed := true }
def LocksWhyUptoSaid : Prop := locksWhyUptoRow.holds Tryd.pinned (OpenSpec.upto locksWhySpec)

/-- 'stilelaw11.LocksNil', WHERE WHAT IT READS IS OF BULK AT MOST 1048576: true; the input reads as it did. -/
def locksNilUptoRow : OpenClaim := { program := "ytogcjflneedcfaadoor", sum := "38e4ba5fc7e9a046fa97718216c80a840be425991d074d6af7d06bead523e724", func := "stile/stilelaw11.LocksNil", spec := "locksNil", unfollowed := true, recurses := true, named := ["stile/modes.covers", "stile/modes.fits"], apart := false, laid := [("stile/modes.fits", laid_stile_modes_fits), ("stile/modes.covers", laid_stile_modes_covers)], narrowed := true }
def LocksNilUptoSaid : Prop := locksNilUptoRow.holds Tryd.pinned (OpenSpec.upto locksNilSpec)

end Rows
end Go.Proofs.YtogcjflneedcfaaDoor
