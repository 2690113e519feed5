/-
  NARROWER THAN 'FOR EVERY INPUT', by the rows' own cells (each row's printed sentence says how): ModesTable: laid · ModesLattice: laid · ModesStronger: laid · ModesObjects: laid · ModesKeys: laid · ModesWithin: laid.
  DERIVED. THE GIVEN ROWS OF THIS SEAT. 6 by the template 'for every input the law returns true; each argument reads behind the call as it read before'; 0 by the template 'total and deterministic' (their statements: YthgklkmkciljmaaDoorTotals.lean).
  GIVEN WITH THE SEED: the statements are not yours to turn. If you find one false, say at which input.
  Laid BY PROGRAM, IN A SANDBOX (cutbox-rows.mjs): the forced cells as the released guide's own fill.sh prints them over the translation 7e537a7746979c4a… (all of the seat's roots in one cut). By AI agents, Wed Nov 11 2026. No macro, syntax, notation, axiom, sorry.
-/
import Derived.Test.YthgklkmkciljmaaDoorChecked
import GoSem.Claim
import GoSem.ClaimJoined
import GoSem.ClaimMapViews
import Derived.JoinedTies
import Derived.KernelRfl
namespace Go.Proofs.YthgklkmkciljmaaDoor
/- THE CELL 'sum', in the pinned program and in every row, IS THE sha256 OF THE DUMP (.gsa) THAT YthgklkmkciljmaaDoorProg.lean LOADS. Nothing in Lean hashes anything: it is a label: what it is worth is what the hold of that sum in a sandbox is worth. -/
noncomputable def Tryd.pinned : Pinned := { name := "ythgklkmkciljmaadoor", sum := "7e537a7746979c4a480a9bcbeae5fc8a8e030bbb5e4558f4defc3e681f2d32a4", checked := Tryd.checked }
namespace Rows
def none {H : Type} : Left H := { results := [], args := [] }

/- WHAT THE LISTED PACKAGE-LEVEL VARIABLES READ AS WHEN THE CALL BEGINS. Each datum BY PROGRAM (the guide's laid-datum.mjs) off the statement by which the dump's own 'gosem.cut.vars' lays the variable. In a bare row this is a premise. The card (YthgklkmkciljmaaDoorCards.lean) ties it to the program's text. -/
def laid_stile_modes_fits {H : Type} : DataW H := .agg [.agg [.lit (.bool true), .lit (.bool true), .lit (.bool true), .lit (.bool true), .lit (.bool true), .lit (.bool true), .lit (.bool true)], .agg [.lit (.bool true), .lit (.bool true), .lit (.bool true), .lit (.bool true), .lit (.bool true), .lit (.bool true), .lit (.bool false)], .agg [.lit (.bool true), .lit (.bool true), .lit (.bool true), .lit (.bool false), .lit (.bool false), .lit (.bool false), .lit (.bool false)], .agg [.lit (.bool true), .lit (.bool true), .lit (.bool false), .lit (.bool true), .lit (.bool false), .lit (.bool true), .lit (.bool false)], .agg [.lit (.bool true), .lit (.bool true), .lit (.bool false), .lit (.bool false), .lit (.bool false), .lit (.bool false), .lit (.bool false)], .agg [.lit (.bool true), .lit (.bool true), .lit (.bool false), .lit (.bool false), .lit (.bool false), .lit (.bool false), .lit (.bool false)], .agg [.lit (.bool true), .lit (.bool false), .lit (.bool false), .lit (.bool false), .lit (.bool false), .lit (.bool false), .lit (.bool false)]]
def laid_stile_modes_covers {H : Type} : DataW H := .agg [.lit (.int .u64 1), .lit (.int .u64 3), .lit (.int .u64 7), .lit (.int .u64 11), .lit (.int .u64 31), .lit (.int .u64 43), .lit (.int .u64 127)]

/-- 'stilelaw10.ModesTable': WHATEVER THE INPUT: true; the input reads as it did. -/
def modesTableSpec : ChangeSpec := { name := "modesTable", fn := fun _ => fun
  | [d1, d2] => { results := [.lit (.bool true)], args := [d1, d2] }
  | _ => none }
def modesTableRow : OpenClaim := { program := "ythgklkmkciljmaadoor", sum := "7e537a7746979c4a480a9bcbeae5fc8a8e030bbb5e4558f4defc3e681f2d32a4", func := "stile/stilelaw10.ModesTable", spec := "modesTable", named := ["stile/modes.fits", "stile/modes.covers"], apart := false, laid := [("stile/modes.fits", laid_stile_modes_fits), ("stile/modes.covers", laid_stile_modes_covers)] }
def ModesTableSaid : Prop := modesTableRow.holds Tryd.pinned (OpenSpec.ofChange modesTableSpec)

/-- ITS FALSE NEIGHBOUR: 'it returns false'. Refute it at one input. -/
def modesTableWrong : ChangeSpec := { name := "modesTable", fn := fun _ => fun
  | [d1, d2] => { results := [.lit (.bool false)], args := [d1, d2] }
  | _ => none }
def ModesTableWrongFalsely : Prop := modesTableRow.holds Tryd.pinned (OpenSpec.ofChange modesTableWrong)

/-- 'stilelaw10.ModesLattice': WHATEVER THE INPUT: true; the input reads as it did. -/
def modesLatticeSpec : ChangeSpec := { name := "modesLattice", fn := fun _ => fun
  | [d1, d2, d3] => { results := [.lit (.bool true)], args := [d1, d2, d3] }
  | _ => none }
def modesLatticeRow : OpenClaim := { program := "ythgklkmkciljmaadoor", sum := "7e537a7746979c4a480a9bcbeae5fc8a8e030bbb5e4558f4defc3e681f2d32a4", func := "stile/stilelaw10.ModesLattice", spec := "modesLattice", named := ["stile/modes.covers", "stile/modes.fits"], apart := false, laid := [("stile/modes.fits", laid_stile_modes_fits), ("stile/modes.covers", laid_stile_modes_covers)] }
def ModesLatticeSaid : Prop := modesLatticeRow.holds Tryd.pinned (OpenSpec.ofChange modesLatticeSpec)

/-- ITS FALSE NEIGHBOUR: 'it returns false'. Refute it at one input. -/
def modesLatticeWrong : ChangeSpec := { name := "modesLattice", fn := fun _ => fun
  | [d1, d2, d3] => { results := [.lit (.bool false)], args := [d1, d2, d3] }
  | _ => none }
def ModesLatticeWrongFalsely : Prop := modesLatticeRow.holds Tryd.pinned (OpenSpec.ofChange modesLatticeWrong)

/-- 'stilelaw10.ModesStronger': WHATEVER THE INPUT: true; the input reads as it did. -/
def modesStrongerSpec : ChangeSpec := { name := "modesStronger", fn := fun _ => fun
  | [d1, d2, d3] => { results := [.lit (.bool true)], args := [d1, d2, d3] }
  | _ => none }
def modesStrongerRow : OpenClaim := { program := "ythgklkmkciljmaadoor", sum := "7e537a7746979c4a480a9bcbeae5fc8a8e030bbb5e4558f4defc3e681f2d32a4", func := "stile/stilelaw10.ModesStronger", spec := "modesStronger", named := ["stile/modes.fits", "stile/modes.covers"], apart := false, laid := [("stile/modes.fits", laid_stile_modes_fits), ("stile/modes.covers", laid_stile_modes_covers)] }
def ModesStrongerSaid : Prop := modesStrongerRow.holds Tryd.pinned (OpenSpec.ofChange modesStrongerSpec)

/-- ITS FALSE NEIGHBOUR: 'it returns false'. Refute it at one input. -/
def modesStrongerWrong : ChangeSpec := { name := "modesStronger", fn := fun _ => fun
  | [d1, d2, d3] => { results := [.lit (.bool false)], args := [d1, d2, d3] }
  | _ => none }
def ModesStrongerWrongFalsely : Prop := modesStrongerRow.holds Tryd.pinned (OpenSpec.ofChange modesStrongerWrong)

/-- 'stilelaw10.ModesObjects': WHATEVER THE INPUT: true; the input reads as it did. -/
def modesObjectsSpec : ChangeSpec := { name := "modesObjects", fn := fun _ => fun
  | [d1, d2] => { results := [.lit (.bool true)], args := [d1, d2] }
  | _ => none }
def modesObjectsRow : OpenClaim := { program := "ythgklkmkciljmaadoor", sum := "7e537a7746979c4a480a9bcbeae5fc8a8e030bbb5e4558f4defc3e681f2d32a4", func := "stile/stilelaw10.ModesObjects", spec := "modesObjects", named := ["stile/modes.fits", "stile/modes.covers"], apart := false, laid := [("stile/modes.fits", laid_stile_modes_fits), ("stile/modes.covers", laid_stile_modes_covers)] }
def ModesObjectsSaid : Prop := modesObjectsRow.holds Tryd.pinned (OpenSpec.ofChange modesObjectsSpec)

/-- ITS FALSE NEIGHBOUR: 'it returns false'. Refute it at one input. -/
def modesObjectsWrong : ChangeSpec := { name := "modesObjects", fn := fun _ => fun
  | [d1, d2] => { results := [.lit (.bool false)], args := [d1, d2] }
  | _ => none }
def ModesObjectsWrongFalsely : Prop := modesObjectsRow.holds Tryd.pinned (OpenSpec.ofChange modesObjectsWrong)

/-- 'stilelaw10.ModesKeys': WHATEVER THE INPUT: true; the input reads as it did. -/
def modesKeysSpec : ChangeSpec := { name := "modesKeys", fn := fun _ => fun
  | [d1, d2, d3] => { results := [.lit (.bool true)], args := [d1, d2, d3] }
  | _ => none }
def modesKeysRow : OpenClaim := { program := "ythgklkmkciljmaadoor", sum := "7e537a7746979c4a480a9bcbeae5fc8a8e030bbb5e4558f4defc3e681f2d32a4", func := "stile/stilelaw10.ModesKeys", spec := "modesKeys", named := ["stile/modes.fits", "stile/modes.covers"], apart := false, laid := [("stile/modes.fits", laid_stile_modes_fits), ("stile/modes.covers", laid_stile_modes_covers)] }
def ModesKeysSaid : Prop := modesKeysRow.holds Tryd.pinned (OpenSpec.ofChange modesKeysSpec)

/-- ITS FALSE NEIGHBOUR: 'it returns false'. Refute it at one input. -/
def modesKeysWrong : ChangeSpec := { name := "modesKeys", fn := fun _ => fun
  | [d1, d2, d3] => { results := [.lit (.bool false)], args := [d1, d2, d3] }
  | _ => none }
def ModesKeysWrongFalsely : Prop := modesKeysRow.holds Tryd.pinned (OpenSpec.ofChange modesKeysWrong)

/-- 'stilelaw10.ModesWithin': WHATEVER THE INPUT: true; the input reads as it did. -/
def modesWithinSpec : ChangeSpec := { name := "modesWithin", fn := fun _ => fun
  | [d1, d2, d3] => { results := [.lit (.bool true)], args := [d1, d2, d3] }
  | _ => none }
def modesWithinRow : OpenClaim := { program := "ythgklkmkciljmaadoor", sum := "7e537a7746979c4a480a9bcbeae5fc8a8e030bbb5e4558f4defc3e681f2d32a4", func := "stile/stilelaw10.ModesWithin", spec := "modesWithin", named := ["stile/modes.fits", "stile/modes.covers"], apart := false, laid := [("stile/modes.fits", laid_stile_modes_fits), ("stile/modes.covers", laid_stile_modes_covers)] }
def ModesWithinSaid : Prop := modesWithinRow.holds Tryd.pinned (OpenSpec.ofChange modesWithinSpec)

/-- ITS FALSE NEIGHBOUR: 'it returns false'. Refute it at one input. -/
def modesWithinWrong : ChangeSpec := { name := "modesWithin", fn := fun _ => fun
  | [d1, d2, d3] => { results := [.lit (.bool false)], args := [d1, d2, d3] }
  | _ => none }
def ModesWithinWrongFalsely : Prop := modesWithinRow.holds Tryd.pinned (OpenSpec.ofChange modesWithinWrong)

/- THE SECOND FORM. 'bulk': how many values and letters a reading holds, each counted each time it is reached (what is shared counts as often as it is met; a slice's spare places count too). A statement '..UptoSaid' is the law's where the arguments, and the package variables that the reading takes, are together of bulk at most 1048576: NARROWER than '..Said'. Prove '..Said' where nothing that the law and all that it calls make is longer than what came in: it says more and counts as full. Else prove '..UptoSaid'. A law counts once. -/
mutual
def uptoBulk {H : Type} : DataW H → Nat
  | .lit (.string bytes) => bytes.length + 1
  | .lit _ => 1
  | .nil => 1
  | .ptr d => uptoBulk d + 1
  | .slice elems spare => uptoBulkAll elems + uptoBulkAll spare + 1
  | .agg parts => uptoBulkAll parts + 1
  | .iface _ d => uptoBulk d + 1
  | .map entries => uptoBulkEntries entries + 1
  | .held _ => 1
def uptoBulkAll {H : Type} : List (DataW H) → Nat
  | [] => 0
  | d :: r => uptoBulk d + uptoBulkAll r
def uptoBulkEntries {H : Type} : List (Lit × DataW H) → Nat
  | [] => 0
  | x :: r => uptoBulkEntry x + uptoBulkEntries r
def uptoBulkEntry {H : Type} : Lit × DataW H → Nat
  | (.string bytes, d) => bytes.length + uptoBulk d + 1
  | (_, d) => uptoBulk d + 1
 end
def uptoSmall : (H : Type) → List (DataW H) → Bool := fun _ ds => decide (uptoBulkAll ds ≤ 1048576)
def OpenSpec.upto (s : _root_.Go.ChangeSpec) : _root_.Go.OpenSpec := { _root_.Go.OpenSpec.ofChange s with cond := some uptoSmall }

/-- 'stilelaw10.ModesTable', WHERE WHAT IT READS IS OF BULK AT MOST 1048576: true; the input reads as it did. -/
def modesTableUptoRow : OpenClaim := { program := "ythgklkmkciljmaadoor", sum := "7e537a7746979c4a480a9bcbeae5fc8a8e030bbb5e4558f4defc3e681f2d32a4", func := "stile/stilelaw10.ModesTable", spec := "modesTable", named := ["stile/modes.fits", "stile/modes.covers"], apart := false, laid := [("stile/modes.fits", laid_stile_modes_fits), ("stile/modes.covers", laid_stile_modes_covers)], narrowed := true }
def ModesTableUptoSaid : Prop := modesTableUptoRow.holds Tryd.pinned (OpenSpec.upto modesTableSpec)

/-- 'stilelaw10.ModesLattice', WHERE WHAT IT READS IS OF BULK AT MOST 1048576: true; the input reads as it did. -/
def modesLatticeUptoRow : OpenClaim := { program := "ythgklkmkciljmaadoor", sum := "7e537a7746979c4a480a9bcbeae5fc8a8e030bbb5e4558f4defc3e681f2d32a4", func := "stile/stilelaw10.ModesLattice", spec := "modesLattice", named := ["stile/modes.covers", "stile/modes.fits"], apart := false, laid := [("stile/modes.fits", laid_stile_modes_fits), ("stile/modes.covers", laid_stile_modes_covers)], narrowed := true }
def ModesLatticeUptoSaid : Prop := modesLatticeUptoRow.holds Tryd.pinned (OpenSpec.upto modesLatticeSpec)

/-- 'stilelaw10.ModesStronger', WHERE WHAT IT READS IS OF BULK AT MOST 1048576: true; the input reads as it did. -/
def modesStrongerUptoRow : OpenClaim := { program := "ythgklkmkciljmaadoor", sum := "7e537a7746979c4a480a9bcbeae5fc8a8e030bbb5e4558f4defc3e681f2d32a4", func := "stile/stilelaw10.ModesStronger", spec := "modesStronger", named := ["stile/modes.fits", "stile/modes.covers"], apart := false, laid := [("stile/modes.fits", laid_stile_modes_fits), ("stile/modes.covers", laid_stile_modes_covers)], narrowed := true }
def ModesStrongerUptoSaid : Prop := modesStrongerUptoRow.holds Tryd.pinned (OpenSpec.upto modesStrongerSpec)

/-- 'stilelaw10.ModesObjects', WHERE WHAT IT READS IS OF BULK AT MOST 1048576: true; the input reads as it did. -/
def modesObjectsUptoRow : OpenClaim := { program := "ythgklkmkciljmaadoor", sum := "7e537a7746979c4a480a9bcbeae5fc8a8e030bbb5e4558f4defc3e681f2d32a4", func := "stile/stilelaw10.ModesObjects", spec := "modesObjects", named := ["stile/modes.fits", "stile/modes.covers"], apart := false, laid := [("stile/modes.fits", laid_stile_modes_fits), ("stile/modes.covers", laid_stile_modes_covers)], narrowed := true }
def ModesObjectsUptoSaid : Prop := modesObjectsUptoRow.holds Tryd.pinned (OpenSpec.upto modesObjectsSpec)

/-- 'stilelaw10.ModesKeys', WHERE WHAT IT READS IS OF BULK AT MOST 1048576: true; the input reads as it did. -/
def modesKeysUptoRow : OpenClaim := { program := "ythgklkmkciljmaadoor", sum := "7e537a7746979c4a480a9bcbeae5fc8a8e030bbb5e4558f4defc3e681f2d32a4", func := "stile/stilelaw10.ModesKeys", spec := "modesKeys", named := ["stile/modes.fits", "stile/modes.covers"], apart := false, laid := [("stile/modes.fits", laid_stile_modes_fits), ("stile/modes.covers", laid_stile_modes_covers)], narrowed := true }
def ModesKeysUptoSaid : Prop := modesKeysUptoRow.holds Tryd.pinned (OpenSpec.upto modesKeysSpec)

/-- 'stilelaw10.ModesWithin', WHERE WHAT IT READS IS OF BULK AT MOST 1048576: true; the input reads as it did. -/
def modesWithinUptoRow : OpenClaim := { program := "ythgklkmkciljmaadoor", sum := "7e537a7746979c4a480a9bcbeae5fc8a8e030bbb5e4558f4defc3e681f2d32a4", func := "stile/stilelaw10.ModesWithin", spec := "modesWithin", named := ["stile/modes.fits", "stile/modes.covers"], apart := false, laid := [("stile/modes.fits", laid_stile_modes_fits), ("stile/modes.covers", laid_stile_modes_covers)], narrowed := true }
def ModesWithinUptoSaid : Prop := modesWithinUptoRow.holds Tryd.pinned (OpenSpec.upto modesWithinSpec)

end Rows
end Go.Proofs.YthgklkmkciljmaaDoor
