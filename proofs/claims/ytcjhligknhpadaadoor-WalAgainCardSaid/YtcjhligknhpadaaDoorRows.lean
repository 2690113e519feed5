/-
  NARROWER THAN 'FOR EVERY INPUT', by the rows' own cells (each row's printed sentence says how): WalNil: laid · WalPlays: laid · WalGoes: laid · WalAgain: laid · WalWhole: laid.
  DERIVED. THE GIVEN ROWS OF THIS SEAT. 5 by the template 'for every input the law returns true; each argument reads behind the call as it read before'; 0 by the template 'total and deterministic' (their statements: YtcjhligknhpadaaDoorTotals.lean).
  GIVEN WITH THE SEED: the statements are not yours to turn. If you find one false, say at which input.
  Laid BY PROGRAM, IN A SANDBOX (cutbox-rows.mjs): the forced cells as the released guide's own fill.sh prints them over the translation b8d90f0414009c82… (all of the seat's roots in one cut). By AI agents, Wed Nov 11 2026. No macro, syntax, notation, axiom, sorry.
-/
import Derived.Test.YtcjhligknhpadaaDoorChecked
import GoSem.PinnedTables
import GoSem.Claim
import GoSem.ClaimJoined
import GoSem.ClaimMapViews
import Derived.JoinedTies
import Derived.KernelRfl
namespace Go.Proofs.YtcjhligknhpadaaDoor
/- THE CELL 'sum', in the pinned program and in every row, IS THE sha256 OF THE DUMP (.gsa) THAT YtcjhligknhpadaaDoorProg.lean LOADS. Nothing in Lean hashes anything: it is a label: what it is worth is what the hold of that sum in a sandbox is worth. -/
noncomputable def Tryd.pinned : Pinned := { name := "ytcjhligknhpadaadoor", sum := "b8d90f0414009c822fbb9deb9ae4ce37d970664126fd5fa7db597ad83644d313", checked := Tryd.checked }
namespace Rows
def none {H : Type} : Left H := { results := [], args := [] }

/- WHAT THE LISTED PACKAGE-LEVEL VARIABLES READ AS WHEN THE CALL BEGINS. Each datum BY PROGRAM (the guide's laid-datum.mjs) off the statement by which the dump's own 'gosem.cut.vars' lays the variable. In a bare row this is a premise. The card (YtcjhligknhpadaaDoorCards.lean) ties it to the program's text. -/
def laid_stile_octets_steps {H : Type} : DataW H := .agg [.lit (.int .u32 0), .lit (.int .u32 498536548), .lit (.int .u32 997073096), .lit (.int .u32 651767980), .lit (.int .u32 1994146192), .lit (.int .u32 1802195444), .lit (.int .u32 1303535960), .lit (.int .u32 1342533948), .lit (.int .u32 3988292384), .lit (.int .u32 4027552580), .lit (.int .u32 3604390888), .lit (.int .u32 3412177804), .lit (.int .u32 2607071920), .lit (.int .u32 2262029012), .lit (.int .u32 2685067896), .lit (.int .u32 3183342108)]
def laid_unicode_utf8_acceptRanges {H : Type} : DataW H := .agg [.agg [.lit (.int .u8 128), .lit (.int .u8 191)], .agg [.lit (.int .u8 160), .lit (.int .u8 191)], .agg [.lit (.int .u8 128), .lit (.int .u8 159)], .agg [.lit (.int .u8 144), .lit (.int .u8 191)], .agg [.lit (.int .u8 128), .lit (.int .u8 143)], .agg [.lit (.int .u8 0), .lit (.int .u8 0)], .agg [.lit (.int .u8 0), .lit (.int .u8 0)], .agg [.lit (.int .u8 0), .lit (.int .u8 0)], .agg [.lit (.int .u8 0), .lit (.int .u8 0)], .agg [.lit (.int .u8 0), .lit (.int .u8 0)], .agg [.lit (.int .u8 0), .lit (.int .u8 0)], .agg [.lit (.int .u8 0), .lit (.int .u8 0)], .agg [.lit (.int .u8 0), .lit (.int .u8 0)], .agg [.lit (.int .u8 0), .lit (.int .u8 0)], .agg [.lit (.int .u8 0), .lit (.int .u8 0)], .agg [.lit (.int .u8 0), .lit (.int .u8 0)]]
/-- One of Go's own tables, pinned by name: the form's constant. -/
def laid_unicode_utf8_first : DataW Unit := Go.Pinned.utf8First

/-- 'stilelaw06.WalNil': WHATEVER THE INPUT: true; the input reads as it did. -/
def walNilSpec : ChangeSpec := { name := "walNil", fn := fun _ => fun
  | [d] => { results := [.lit (.bool true)], args := [d] }
  | _ => none }
def walNilRow : OpenClaim := { program := "ytcjhligknhpadaadoor", sum := "b8d90f0414009c822fbb9deb9ae4ce37d970664126fd5fa7db597ad83644d313", func := "stile/stilelaw06.WalNil", spec := "walNil", unfollowed := true, recurses := true, named := ["stile/octets.steps", "unicode/utf8.first", "unicode/utf8.acceptRanges"], apart := false, laid := [("stile/octets.steps", laid_stile_octets_steps), ("unicode/utf8.acceptRanges", laid_unicode_utf8_acceptRanges), ("unicode/utf8.first", laid_unicode_utf8_first)] }
def WalNilSaid : Prop := walNilRow.holds Tryd.pinned (OpenSpec.ofChange walNilSpec)

/-- ITS FALSE NEIGHBOUR: 'it returns false'. Refute it at one input. -/
def walNilWrong : ChangeSpec := { name := "walNil", fn := fun _ => fun
  | [d] => { results := [.lit (.bool false)], args := [d] }
  | _ => none }
def WalNilWrongFalsely : Prop := walNilRow.holds Tryd.pinned (OpenSpec.ofChange walNilWrong)

/-- 'stilelaw06.WalPlays': WHATEVER THE INPUT: true; the input reads as it did. -/
def walPlaysSpec : ChangeSpec := { name := "walPlays", fn := fun _ => fun
  | [d1, d2] => { results := [.lit (.bool true)], args := [d1, d2] }
  | _ => none }
def walPlaysRow : OpenClaim := { program := "ytcjhligknhpadaadoor", sum := "b8d90f0414009c822fbb9deb9ae4ce37d970664126fd5fa7db597ad83644d313", func := "stile/stilelaw06.WalPlays", spec := "walPlays", inPlace := ["maps.clone"], unfollowed := true, recurses := true, named := ["stile/octets.steps", "unicode/utf8.first", "unicode/utf8.acceptRanges"], apart := false, laid := [("stile/octets.steps", laid_stile_octets_steps), ("unicode/utf8.acceptRanges", laid_unicode_utf8_acceptRanges), ("unicode/utf8.first", laid_unicode_utf8_first)] }
def WalPlaysSaid : Prop := walPlaysRow.holds Tryd.pinned (OpenSpec.ofChange walPlaysSpec)

/-- ITS FALSE NEIGHBOUR: 'it returns false'. Refute it at one input. -/
def walPlaysWrong : ChangeSpec := { name := "walPlays", fn := fun _ => fun
  | [d1, d2] => { results := [.lit (.bool false)], args := [d1, d2] }
  | _ => none }
def WalPlaysWrongFalsely : Prop := walPlaysRow.holds Tryd.pinned (OpenSpec.ofChange walPlaysWrong)

/-- 'stilelaw06.WalGoes': WHATEVER THE INPUT: true; the input reads as it did. -/
def walGoesSpec : ChangeSpec := { name := "walGoes", fn := fun _ => fun
  | [d] => { results := [.lit (.bool true)], args := [d] }
  | _ => none }
def walGoesRow : OpenClaim := { program := "ytcjhligknhpadaadoor", sum := "b8d90f0414009c822fbb9deb9ae4ce37d970664126fd5fa7db597ad83644d313", func := "stile/stilelaw06.WalGoes", spec := "walGoes", inPlace := ["maps.clone"], unfollowed := true, recurses := true, named := ["stile/octets.steps", "unicode/utf8.first", "unicode/utf8.acceptRanges"], apart := false, laid := [("stile/octets.steps", laid_stile_octets_steps), ("unicode/utf8.acceptRanges", laid_unicode_utf8_acceptRanges), ("unicode/utf8.first", laid_unicode_utf8_first)] }
def WalGoesSaid : Prop := walGoesRow.holds Tryd.pinned (OpenSpec.ofChange walGoesSpec)

/-- ITS FALSE NEIGHBOUR: 'it returns false'. Refute it at one input. -/
def walGoesWrong : ChangeSpec := { name := "walGoes", fn := fun _ => fun
  | [d] => { results := [.lit (.bool false)], args := [d] }
  | _ => none }
def WalGoesWrongFalsely : Prop := walGoesRow.holds Tryd.pinned (OpenSpec.ofChange walGoesWrong)

/-- 'stilelaw06.WalAgain': WHATEVER THE INPUT: true; the input reads as it did. -/
def walAgainSpec : ChangeSpec := { name := "walAgain", fn := fun _ => fun
  | [d] => { results := [.lit (.bool true)], args := [d] }
  | _ => none }
def walAgainRow : OpenClaim := { program := "ytcjhligknhpadaadoor", sum := "b8d90f0414009c822fbb9deb9ae4ce37d970664126fd5fa7db597ad83644d313", func := "stile/stilelaw06.WalAgain", spec := "walAgain", inPlace := ["maps.clone"], unfollowed := true, recurses := true, named := ["stile/octets.steps", "unicode/utf8.first", "unicode/utf8.acceptRanges"], apart := false, laid := [("stile/octets.steps", laid_stile_octets_steps), ("unicode/utf8.acceptRanges", laid_unicode_utf8_acceptRanges), ("unicode/utf8.first", laid_unicode_utf8_first)] }
def WalAgainSaid : Prop := walAgainRow.holds Tryd.pinned (OpenSpec.ofChange walAgainSpec)

/-- ITS FALSE NEIGHBOUR: 'it returns false'. Refute it at one input. -/
def walAgainWrong : ChangeSpec := { name := "walAgain", fn := fun _ => fun
  | [d] => { results := [.lit (.bool false)], args := [d] }
  | _ => none }
def WalAgainWrongFalsely : Prop := walAgainRow.holds Tryd.pinned (OpenSpec.ofChange walAgainWrong)

/-- 'stilelaw06.WalWhole': WHATEVER THE INPUT: true; the input reads as it did. -/
def walWholeSpec : ChangeSpec := { name := "walWhole", fn := fun _ => fun
  | [d1, d2, d3] => { results := [.lit (.bool true)], args := [d1, d2, d3] }
  | _ => none }
def walWholeRow : OpenClaim := { program := "ytcjhligknhpadaadoor", sum := "b8d90f0414009c822fbb9deb9ae4ce37d970664126fd5fa7db597ad83644d313", func := "stile/stilelaw06.WalWhole", spec := "walWhole", inPlace := ["maps.clone"], unfollowed := true, recurses := true, named := ["stile/octets.steps", "unicode/utf8.first", "unicode/utf8.acceptRanges"], apart := false, laid := [("stile/octets.steps", laid_stile_octets_steps), ("unicode/utf8.acceptRanges", laid_unicode_utf8_acceptRanges), ("unicode/utf8.first", laid_unicode_utf8_first)] }
def WalWholeSaid : Prop := walWholeRow.holds Tryd.pinned (OpenSpec.ofChange walWholeSpec)

/-- ITS FALSE NEIGHBOUR: 'it returns false'. Refute it at one input. -/
def walWholeWrong : ChangeSpec := { name := "walWhole", fn := fun _ => fun
  | [d1, d2, d3] => { results := [.lit (.bool false)], args := [d1, d2, d3] }
  | _ => none }
def WalWholeWrongFalsely : Prop := walWholeRow.holds Tryd.pinned (OpenSpec.ofChange walWholeWrong)

/- THE SECOND FORM. 'bulk': how many values and letters a reading holds, each counted each time it is reached (what is shared counts as often as it is met; a slice's spare places count too). A statement '..UptoSaid' is the law's where the arguments, and the package variables that the reading takes, are together of bulk at most 1048576: NARROWER than '..Said'. Prove '..Said' where nothing that the law and all that it calls make is longer than what came in: it says more and counts as full. Else prove '..UptoSaid'. A law counts once. -/
mutual
def uptoBulk {H : Type} : DataW H → Nat
  | .lit (.string bytes) => bytes.length + 1
  | .lit _ => 1
  | .nil => 1
  | .ptr d => uptoBulk d + 1
  | .slice elems spare => uptoBulkAll elems + uptoBulkAll spare + 1
  | .agg parts => uptoBulkAll parts + 1
  | .iface _ d => uptoBulk d + 1
  | .map entries => uptoBulkEntries entries + 1
  | .held _ => 1
def uptoBulkAll {H : Type} : List (DataW H) → Nat
  | [] => 0
  | d :: r => uptoBulk d + uptoBulkAll r
def uptoBulkEntries {H : Type} : List (Lit × DataW H) → Nat
  | [] => 0
  | x :: r => uptoBulkEntry x + uptoBulkEntries r
def uptoBulkEntry {H : Type} : Lit × DataW H → Nat
  | (.string bytes, d) => bytes.length + uptoBulk d + 1
  | (_, d) => uptoBulk d + 1
 end
def uptoSmall : (H : Type) → List (DataW H) → Bool := fun _ ds => decide (uptoBulkAll ds ≤ 1048576)
def OpenSpec.upto (s : _root_.Go.ChangeSpec) : _root_.Go.OpenSpec := { _root_.Go.OpenSpec.ofChange s with cond := some uptoSmall }

/-- 'stilelaw06.WalNil', WHERE WHAT IT READS IS OF BULK AT MOST 1048576: true; the input reads as it did. -/
def walNilUptoRow : OpenClaim := { program := "ytcjhligknhpadaadoor", sum := "b8d90f0414009c822fbb9deb9ae4ce37d970664126fd5fa7db597ad83644d313", func := "stile/stilelaw06.WalNil", spec := "walNil", unfollowed := true, recurses := true, named := ["stile/octets.steps", "unicode/utf8.first", "unicode/utf8.acceptRanges"], apart := false, laid := [("stile/octets.steps", laid_stile_octets_steps), ("unicode/utf8.acceptRanges", laid_unicode_utf8_acceptRanges), ("unicode/utf8.first", laid_unicode_utf8_first)], narrowed := true }
def WalNilUptoSaid : Prop := walNilUptoRow.holds Tryd.pinned (OpenSpec.upto walNilSpec)

/-- 'stilelaw06.WalPlays', WHERE WHAT IT READS IS OF BULK AT MOST 1048576: true; the input reads as it did. -/
def walPlaysUptoRow : OpenClaim := { program := "ytcjhligknhpadaadoor", sum := "b8d90f0414009c822fbb9deb9ae4ce37d970664126fd5fa7db597ad83644d313", func := "stile/stilelaw06.WalPlays", spec := "walPlays", inPlace := ["maps.clone"], unfollowed := true, recurses := true, named := ["stile/octets.steps", "unicode/utf8.first", "unicode/utf8.acceptRanges"], apart := false, laid := [("stile/octets.steps", laid_stile_octets_steps), ("unicode/utf8.acceptRanges", laid_unicode_utf8_acceptRanges), ("unicode/utf8.first", laid_unicode_utf8_first)], narrowed := true }
def WalPlaysUptoSaid : Prop := walPlaysUptoRow.holds Tryd.pinned (OpenSpec.upto walPlaysSpec)

/-- 'stilelaw06.WalGoes', WHERE WHAT IT READS IS OF BULK AT MOST 1048576: true; the input reads as it did. -/
def walGoesUptoRow : OpenClaim := { program := "ytcjhligknhpadaadoor", sum := "b8d90f0414009c822fbb9deb9ae4ce37d970664126fd5fa7db597ad83644d313", func := "stile/stilelaw06.WalGoes", spec := "walGoes", inPlace := ["maps.clone"], unfollowed := true, recurses := true, named := ["stile/octets.steps", "unicode/utf8.first", "unicode/utf8.acceptRanges"], apart := false, laid := [("stile/octets.steps", laid_stile_octets_steps), ("unicode/utf8.acceptRanges", laid_unicode_utf8_acceptRanges), ("unicode/utf8.first", laid_unicode_utf8_first)], narrowed := true }
def WalGoesUptoSaid : Prop := walGoesUptoRow.holds Tryd.pinned (OpenSpec.upto walGoesSpec)

/-- 'stilelaw06.WalAgain', WHERE WHAT IT READS IS OF BULK AT MOST 1048576: true; the input reads as it did. -/
def walAgainUptoRow : OpenClaim := { program := "ytcjhligknhpadaadoor", sum := "b8d90f0414009c822fbb9deb9ae4ce37d970664126fd5fa7db597ad83644d313", func := "stile/stilelaw06.WalAgain", spec := "walAgain", inPlace := ["maps.clone"], unfollowed := true, recurses := true, named := ["stile/octets.steps", "unicode/utf8.first", "unicode/utf8.acceptRanges"], apart := false, laid := [("stile/octets.steps", laid_stile_octets_steps), ("unicode/utf8.acceptRanges", laid_unicode_utf8_acceptRanges), ("unicode/utf8.first", laid_unicode_utf8_first)], narrowed := true }
def WalAgainUptoSaid : Prop := walAgainUptoRow.holds Tryd.pinned (OpenSpec.upto walAgainSpec)

/-- 'stilelaw06.WalWhole', WHERE WHAT IT READS IS OF BULK AT MOST 1048576: true; the input reads as it did. -/
def walWholeUptoRow : OpenClaim := { program := "ytcjhligknhpadaadoor", sum := "b8d90f0414009c822fbb9deb9ae4ce37d970664126fd5fa7db597ad83644d313", func := "stile/stilelaw06.WalWhole", spec := "walWhole", inPlace := ["maps.clone"], unfollowed := true, recurses := true, named := ["stile/octets.steps", "unicode/utf8.first", "unicode/utf8.acceptRanges"], apart := false, laid := [("stile/octets.steps", laid_stile_octets_steps), ("unicode/utf8.acceptRanges", laid_unicode_utf8_acceptRanges), ("unicode/utf8.first", laid_unicode_utf8_first)], narrowed := true }
def WalWholeUptoSaid : Prop := walWholeUptoRow.holds Tryd.pinned (OpenSpec.upto walWholeSpec)

end Rows
end Go.Proofs.YtcjhligknhpadaaDoor
