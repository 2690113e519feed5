/- Texts of this claim, set one behind the other by a program: part 1. -/
import Derived.Test.YtlmkhpgnkpgbdaaDoorRows
import Derived.Test.YtlmkhpgnkpgbdaaDoorCards
import Derived.Test.YtlmkhpgnkpgbdaaDoorTie
import Derived.ProofKit
import Derived.OpenShut
import Derived.ShutString
import Derived.ChangeOld
import Derived.Below
import Derived.SizedLaws
import Derived.Deep.DeepHandedRow
import Derived.Lib.SmallJoins
import Derived.LaidMore
import Derived.Test.YtlmkhpgnkpgbdaaDoorProg
import Derived.WalkKit
import Derived.WalkLawsBesides
import Derived.WalkSpells
import Derived.Lib.Hide
import Derived.Deep.QuietTactic
import Derived.BigQuiet
import Derived.LoopN
import Derived.Test.YtlmkhpgnkpgbdaaDoorWLast
import Derived.Shelf.Small.Utf8
import Derived.Shelf.Small.Strs
import Derived.Shelf.Strings.Search1
import Derived.Shelf.Unicode.Decode
import Derived.Shelf.Strings.Runes
import Derived.Shelf.Strings.AsciiSet
import Derived.Shelf.Bits.Mul64
import Derived.Shelf.Unicode.DecodeSlow
import Derived.Shelf.Unicode.DecodeAny
import Derived.Shelf.Unicode.DecodeLast
import Derived.IntWalk
import Derived.RangeFuncRecord
import Derived.Lib.Strings
import Derived.Deep.Draws
import Derived.Deep.AppendLies
import Derived.Maps.AppendAt
import Derived.OwnWalk
import Derived.Laws.BytesArg
import Derived.Laws.MakeOwn
import Derived.Laws.OwnMore
import Derived.Deep.OwnRows
import Derived.Tactics
import Derived.Lib.ConvBytes
import Derived.Laws.Slices
import Derived.KernelRfl
import Derived.RowKit3
import Derived.Deep.LoopGhost
import Derived.WideLaws
import Derived.Deep.DeepCutAuto
import Derived.Deep.CutBlock
import Derived.Deep.RegionHeld3
import Derived.Laws.Rows
import Derived.Lib.AppendStr
import Derived.ArgAppend
import Derived.Laws.IdiomCopy
import Derived.OrdersHeld
import Derived.Laws.BitsLemmas
import Derived.RowKit
import Derived.Test.YtlmkhpgnkpgbdaaDoorWWords
import Derived.Test.YtlmkhpgnkpgbdaaDoorWTab
import Derived.Test.YtlmkhpgnkpgbdaaDoorWFour
import Derived.Test.YtlmkhpgnkpgbdaaDoorWQPut
import Derived.Test.YtlmkhpgnkpgbdaaDoorWApart
import Derived.Test.YtlmkhpgnkpgbdaaDoorWArr
import Derived.Test.YtlmkhpgnkpgbdaaDoorWZeros
import Derived.Test.YtlmkhpgnkpgbdaaDoorWFoot
import Derived.Test.YtlmkhpgnkpgbdaaDoorWKept
import Derived.Test.YtlmkhpgnkpgbdaaDoorWShare
import Derived.Test.YtlmkhpgnkpgbdaaDoorWN
import Derived.Test.YtlmkhpgnkpgbdaaDoorWFootNe
import Derived.Test.YtlmkhpgnkpgbdaaDoorWAt
import Derived.Test.YtlmkhpgnkpgbdaaDoorWEqStruct
import Derived.Test.YtlmkhpgnkpgbdaaDoorWRepsOne
import Derived.Test.YtlmkhpgnkpgbdaaDoorWInv
import Derived.Test.YtlmkhpgnkpgbdaaDoorWInvWords
import Derived.Test.YtlmkhpgnkpgbdaaDoorWGuard
import Derived.Test.YtlmkhpgnkpgbdaaDoorWNEv
import Derived.Test.YtlmkhpgnkpgbdaaDoorWMore
import Derived.Test.YtlmkhpgnkpgbdaaDoorWSized
namespace Go.Proofs.YtlmkhpgnkpgbdaaDoor
open Go.ChangeShapes Go.WideShapes Go.ChangeAt Go.RowKit
set_option linter.unusedVariables false
set_option linter.unusedSimpArgs false
namespace Vl
theorem own : ownKnob Tryd.prog.godebug = none := by kernel_rfl
theorem laidOut : laidOutB Tryd.prog = true := by kernel_rfl
/-- A WORLD FOR THE WITNESS: the settled one, the two tables holding what they are listed with. -/
noncomputable def firstBlock : Obj → Obj
  | .cells _ t frozen => .cells (Go.Pinned.utf8FirstZ.map fun (n : Nat) => Value.int .u8 (n : Int)).toArray t frozen
  | o => o
noncomputable def acceptBlock : Obj → Obj
  | .cells _ t frozen => .cells #[.int .u8 128, .int .u8 191, .int .u8 160, .int .u8 191, .int .u8 128, .int .u8 159, .int .u8 144, .int .u8 191, .int .u8 128, .int .u8 143, .int .u8 0, .int .u8 0, .int .u8 0, .int .u8 0, .int .u8 0, .int .u8 0, .int .u8 0, .int .u8 0, .int .u8 0, .int .u8 0, .int .u8 0, .int .u8 0, .int .u8 0, .int .u8 0, .int .u8 0, .int .u8 0, .int .u8 0, .int .u8 0, .int .u8 0, .int .u8 0, .int .u8 0, .int .u8 0] t frozen
  | o => o
noncomputable def laidWorld (os : Os) : World :=
  { World.holding Tryd.prog os ⟨#[], #[], []⟩ with heap := ((World.holding Tryd.prog os ⟨#[], #[], []⟩).heap.modify 1 firstBlock).modify 2 acceptBlock }
theorem size_agg4 {H : Type} {t : TypeId} {f0 f1 f2 f3 : Field} {d0 d1 d2 d3 : DataW H} {ts : List TypeId} {ds : List (DataW H)} {j : Nat} (hs : Tryd.prog.underlying t = some (.struct #[f0, f1, f2, f3])) (h : (DataW.weightsEach Tryd.prog ts ds).all (· ≤ reachBytes) = true) (ht : ts[j]? = some t) (hd : ds[j]? = some (.agg [d0, d1, d2, d3])) :
    ∀ n, n ∈ d0.weights Tryd.prog f0.type ++ (d1.weights Tryd.prog f1.type ++ (d2.weights Tryd.prog f2.type ++ d3.weights Tryd.prog f3.type)) → n ≤ 140737488351232 := by
  intro n hn
  have := List.all_eq_true.1 h _ (DataW.weights_mem_each ht hd n (by simp only [DataW.weights, hs, DataW.weightsEach, List.map_cons, List.map_nil, List.append_nil]; exact hn))
  exact Nat.le_trans (of_decide_eq_true this) (by decide)
end Vl
end Go.Proofs.YtlmkhpgnkpgbdaaDoor

namespace Go.Proofs.YtlmkhpgnkpgbdaaDoor
open Go.RowKit
set_option linter.unusedVariables false
set_option linter.unusedSimpArgs false
namespace Vl
/-- the world w' is w, but for what was made since -/
def Nw (w w' : World) : Prop := Below w.heap.size w w'
theorem Nw.refl (w : World) : Nw w w := Below.refl _ _
theorem Nw.alloc {a w : World} (h : Nw a w) (o : Obj) : Nw a (w.alloc o) := Below.alloc h (Below.size h) o
theorem Nw.drew {a w : World} (h : Nw a w) : Nw a w.drew := Below.drew h
theorem Nw.setCell {a w : World} (h : Nw a w) {p : Addr} (hp : a.heap.size ≤ p.block) (u : Value) : Nw a (w.setCell p u) := Below.setCell h hp u
theorem Nw.to {a b c : World} (h : Nw a b) (k : Nw b c) : Nw a c := Below.trans h (Below.mono k (Below.size h))
theorem Nw.below {w w' : World} (h : Nw w w') : Below w.heap.size w w' := h
theorem Nw.blk {b c : World} (h : Nw b c) {g : Nat} {o : Obj} (k : b.heap[g]? = some o) : c.heap[g]? = some o := by
  have hg : g < b.heap.size := by
    by_cases hh : g < b.heap.size
    · exact hh
    · rw [Array.getElem?_eq_none (by omega)] at k; cases k
  exact (Below.block h g hg).trans k
theorem Nw.at_ {b c : World} (h : Nw b c) (g : Nat) (hg : g < b.heap.size) : (∀ o, c.cell? ⟨g, o, none⟩ = b.cell? ⟨g, o, none⟩) ∧ (∀ o, c.frozen? ⟨g, o, none⟩ = b.frozen? ⟨g, o, none⟩) :=
  ⟨fun o => Below.cell (p := ⟨g, o, none⟩) h hg, fun o => Below.frozen (p := ⟨g, o, none⟩) h hg⟩
theorem Nw.size {b c : World} (h : Nw b c) : b.heap.size ≤ c.heap.size := Below.size h
theorem blk_cell {w : World} {g : Nat} {c : Array Value} {t : TypeId} {f : Nat × Nat} (h : w.heap[g]? = some (.cells c t f)) (i : Nat) : w.cell? ⟨g, i, none⟩ = c[i]? := by simp [World.cell?, h]
theorem ret_bool {a b : Bool} (h : a = b) : Ending.returned (.bool a) = .returned (.bool b) := by rw [h]
theorem ret_int {k : IntKind} {a b : Int} (h : a = b) : Ending.returned (.int k a) = .returned (.int k b) := by rw [h]

/-- the values that are right -/
inductive Vl where
  | null
  | num (n : Int)
  | text (s : ByteArray)
  | bool (b : Bool)
abbrev E : ByteArray := ⟨#[]⟩
def Vl.k : Vl → Int
  | .null => 0
  | .num _ => 1
  | .text _ => 2
  | .bool _ => 3
def Vl.n : Vl → Int
  | .num n => n
  | _ => 0
def Vl.s : Vl → ByteArray
  | .text s => s
  | _ => E
def Vl.b : Vl → Bool
  | .bool b => b
  | _ => false
abbrev sDone : ByteArray := ⟨#[48, 48, 48, 48, 48]⟩
abbrev sRange : ByteArray := ⟨#[50, 50, 48, 48, 51]⟩
abbrev sMis : ByteArray := ⟨#[52, 50, 56, 48, 52]⟩
theorem blk_frozen {w : World} {g : Nat} {c : Array Value} {t : TypeId} (h : w.heap[g]? = some (.cells c t (0, 0))) (i : Nat) : w.frozen? ⟨g, i, none⟩ = false := by simp [World.frozen?, h]
theorem blk_new (w : World) (o : Obj) : (w.alloc o).heap[w.heap.size]? = some o := by show (w.heap.push _)[_]? = _; simp
theorem blk_lt {w : World} {g : Nat} {o : Obj} (h : w.heap[g]? = some o) : g < w.heap.size := by
  by_cases hh : g < w.heap.size
  · exact hh
  · rw [Array.getElem?_eq_none (by omega)] at h; cases h
theorem num_any (n : Int) (w : World) : Calls Tryd.prog 69 #[.int .i64 n] w fun e w' => e = .returned (.agg #[.int .i64 1, .int .i64 n, .string E, .bool false]) ∧ Nw w w' := by
  go_enter Tryd.func69, Tryd.ntmps69
  go_wp2
  exact bodyPost_ret (v := .agg #[.int .i64 1, .int .i64 n, .string E, .bool false]) (by simp [results, Tryd.results69, go_sem]) rfl ⟨rfl, (Nw.refl w).alloc _⟩
theorem number_t (n : Int) (w : World) : Calls Tryd.prog 59 #[.int .i64 n, .bool true] w fun e w' => e = .returned (.tuple #[.agg #[.int .i64 1, .int .i64 n, .string E, .bool false], .string sDone]) ∧ Nw w w' := by
  go_enter Tryd.func59, Tryd.ntmps59
  go_wp2_with fail
  refine (num_any n _).mono ?_
  rintro e w1 ⟨rfl, hb⟩
  obtain ⟨q1, q2⟩ := hb.at_ w.heap.size (by simp)
  have hz := hb.size
  (try simp at hz)
  have G := Lib.hid (((Nw.refl w).alloc _).to hb)
  clear hb
  go_wp2_with fail
  refine bodyPost_ret (v := .tuple #[.agg #[.int .i64 1, .int .i64 n, .string E, .bool false], .string sDone]) (by simp [results, Tryd.results59, go_sem, q1]) rfl ⟨rfl, ?_⟩
  exact (((G.out.setCell (Nat.le_refl _) _).setCell (Nat.le_refl _) _).setCell (Nat.le_refl _) _).setCell (Nat.le_refl _) _
theorem number_f (n : Int) (w : World) : Calls Tryd.prog 59 #[.int .i64 n, .bool false] w fun e w' => e = .returned (.tuple #[.agg #[.int .i64 0, .int .i64 0, .string E, .bool false], .string sRange]) ∧ Nw w w' := by
  go_enter Tryd.func59, Tryd.ntmps59
  go_wp2
  exact bodyPost_ret (v := .tuple #[.agg #[.int .i64 0, .int .i64 0, .string E, .bool false], .string sRange]) (by simp [results, Tryd.results59, go_sem]) rfl ⟨rfl, (Nw.refl w).alloc _⟩
end Vl
end Go.Proofs.YtlmkhpgnkpgbdaaDoor

namespace Go.Proofs.YtlmkhpgnkpgbdaaDoor
open Go.RowKit
set_option linter.unusedVariables false
set_option linter.unusedSimpArgs false
namespace Vl
set_option maxRecDepth 100000 in
set_option maxHeartbeats 1000000 in
theorem lift_1 (k : Int) (k1 n1 : Int) (s1 : ByteArray) (b1 : Bool) (k2 n2 : Int) (s2 : ByteArray) (b2 : Bool) (f : Value) (w : World) (h1 : (k1 != 0) = true) (h2 : (k1 != k) = true) : Calls Tryd.prog 53 #[.int .i64 k, .agg #[.int .i64 k1, .int .i64 n1, .string s1, .bool b1], .agg #[.int .i64 k2, .int .i64 n2, .string s2, .bool b2], f] w fun e w' => e = .returned (.tuple #[.agg #[.int .i64 0, .int .i64 0, .string E, .bool false], .string sMis]) ∧ Nw w w' := by
  have i0 : ∀ w, (Instr.index 84 (.agg #[.int .i64 k1, .int .i64 n1, .string s1, .bool b1, .int .i64 k2, .int .i64 n2, .string s2, .bool b2]) (.int .i64 0)).run Tryd.prog w = .ok (.agg #[.int .i64 k1, .int .i64 n1, .string s1, .bool b1]) w := fun _ => by kernel_rfl
  have i1 : ∀ w, (Instr.index 84 (.agg #[.int .i64 k1, .int .i64 n1, .string s1, .bool b1, .int .i64 k2, .int .i64 n2, .string s2, .bool b2]) (.int .i64 1)).run Tryd.prog w = .ok (.agg #[.int .i64 k2, .int .i64 n2, .string s2, .bool b2]) w := fun _ => by kernel_rfl
  go_enter Tryd.func53, Tryd.ntmps53
  go_wp2
  refine wp_loop_rounds 3 ?_
  rw [rounds_succ]
  go_wp2_with fail
  exact bodyPost_ret (v := .tuple #[.agg #[.int .i64 0, .int .i64 0, .string E, .bool false], .string sMis]) (by simp [results, Tryd.results53, go_sem]) rfl ⟨rfl, (by repeat (first | exact Nw.refl _ | assumption | apply Nw.alloc | apply Nw.drew | refine Nw.setCell ?_ (by simp <;> omega) _))⟩
set_option maxRecDepth 100000 in
set_option maxHeartbeats 1000000 in
theorem lift_2a (k : Int) (k1 n1 : Int) (s1 : ByteArray) (b1 : Bool) (k2 n2 : Int) (s2 : ByteArray) (b2 : Bool) (f : Value) (w : World) (h1 : (k1 != 0) = false) (h3 : (k2 != 0) = true) (h4 : (k2 != k) = true) : Calls Tryd.prog 53 #[.int .i64 k, .agg #[.int .i64 k1, .int .i64 n1, .string s1, .bool b1], .agg #[.int .i64 k2, .int .i64 n2, .string s2, .bool b2], f] w fun e w' => e = .returned (.tuple #[.agg #[.int .i64 0, .int .i64 0, .string E, .bool false], .string sMis]) ∧ Nw w w' := by
  have i0 : ∀ w, (Instr.index 84 (.agg #[.int .i64 k1, .int .i64 n1, .string s1, .bool b1, .int .i64 k2, .int .i64 n2, .string s2, .bool b2]) (.int .i64 0)).run Tryd.prog w = .ok (.agg #[.int .i64 k1, .int .i64 n1, .string s1, .bool b1]) w := fun _ => by kernel_rfl
  have i1 : ∀ w, (Instr.index 84 (.agg #[.int .i64 k1, .int .i64 n1, .string s1, .bool b1, .int .i64 k2, .int .i64 n2, .string s2, .bool b2]) (.int .i64 1)).run Tryd.prog w = .ok (.agg #[.int .i64 k2, .int .i64 n2, .string s2, .bool b2]) w := fun _ => by kernel_rfl
  go_enter Tryd.func53, Tryd.ntmps53
  go_wp2
  refine wp_loop_rounds 3 ?_
  rw [rounds_succ]
  go_wp2_with fail
  rw [rounds_succ]
  go_wp2_with fail
  exact bodyPost_ret (v := .tuple #[.agg #[.int .i64 0, .int .i64 0, .string E, .bool false], .string sMis]) (by simp [results, Tryd.results53, go_sem]) rfl ⟨rfl, (by repeat (first | exact Nw.refl _ | assumption | apply Nw.alloc | apply Nw.drew | refine Nw.setCell ?_ (by simp <;> omega) _))⟩
set_option maxRecDepth 100000 in
set_option maxHeartbeats 1000000 in
theorem lift_2b (k : Int) (k1 n1 : Int) (s1 : ByteArray) (b1 : Bool) (k2 n2 : Int) (s2 : ByteArray) (b2 : Bool) (f : Value) (w : World) (h1 : (k1 != 0) = true) (h2 : (k1 != k) = false) (h3 : (k2 != 0) = true) (h4 : (k2 != k) = true) : Calls Tryd.prog 53 #[.int .i64 k, .agg #[.int .i64 k1, .int .i64 n1, .string s1, .bool b1], .agg #[.int .i64 k2, .int .i64 n2, .string s2, .bool b2], f] w fun e w' => e = .returned (.tuple #[.agg #[.int .i64 0, .int .i64 0, .string E, .bool false], .string sMis]) ∧ Nw w w' := by
  have i0 : ∀ w, (Instr.index 84 (.agg #[.int .i64 k1, .int .i64 n1, .string s1, .bool b1, .int .i64 k2, .int .i64 n2, .string s2, .bool b2]) (.int .i64 0)).run Tryd.prog w = .ok (.agg #[.int .i64 k1, .int .i64 n1, .string s1, .bool b1]) w := fun _ => by kernel_rfl
  have i1 : ∀ w, (Instr.index 84 (.agg #[.int .i64 k1, .int .i64 n1, .string s1, .bool b1, .int .i64 k2, .int .i64 n2, .string s2, .bool b2]) (.int .i64 1)).run Tryd.prog w = .ok (.agg #[.int .i64 k2, .int .i64 n2, .string s2, .bool b2]) w := fun _ => by kernel_rfl
  go_enter Tryd.func53, Tryd.ntmps53
  go_wp2
  refine wp_loop_rounds 3 ?_
  rw [rounds_succ]
  go_wp2_with fail
  rw [rounds_succ]
  go_wp2_with fail
  exact bodyPost_ret (v := .tuple #[.agg #[.int .i64 0, .int .i64 0, .string E, .bool false], .string sMis]) (by simp [results, Tryd.results53, go_sem]) rfl ⟨rfl, (by repeat (first | exact Nw.refl _ | assumption | apply Nw.alloc | apply Nw.drew | refine Nw.setCell ?_ (by simp <;> omega) _))⟩
set_option maxRecDepth 100000 in
set_option maxHeartbeats 1000000 in
theorem lift_3a (k : Int) (k1 n1 : Int) (s1 : ByteArray) (b1 : Bool) (k2 n2 : Int) (s2 : ByteArray) (b2 : Bool) (f : Value) (w : World) (h1 : (k1 != 0) = false) (h3 : (k2 != 0) = false) (h5 : (k1 == 0) = true) : Calls Tryd.prog 53 #[.int .i64 k, .agg #[.int .i64 k1, .int .i64 n1, .string s1, .bool b1], .agg #[.int .i64 k2, .int .i64 n2, .string s2, .bool b2], f] w fun e w' => e = .returned (.tuple #[.agg #[.int .i64 0, .int .i64 0, .string E, .bool false], .string sDone]) ∧ Nw w w' := by
  have i0 : ∀ w, (Instr.index 84 (.agg #[.int .i64 k1, .int .i64 n1, .string s1, .bool b1, .int .i64 k2, .int .i64 n2, .string s2, .bool b2]) (.int .i64 0)).run Tryd.prog w = .ok (.agg #[.int .i64 k1, .int .i64 n1, .string s1, .bool b1]) w := fun _ => by kernel_rfl
  have i1 : ∀ w, (Instr.index 84 (.agg #[.int .i64 k1, .int .i64 n1, .string s1, .bool b1, .int .i64 k2, .int .i64 n2, .string s2, .bool b2]) (.int .i64 1)).run Tryd.prog w = .ok (.agg #[.int .i64 k2, .int .i64 n2, .string s2, .bool b2]) w := fun _ => by kernel_rfl
  go_enter Tryd.func53, Tryd.ntmps53
  go_wp2
  refine wp_loop_rounds 3 ?_
  rw [rounds_succ]
  go_wp2_with fail
  rw [rounds_succ]
  go_wp2_with fail
  rw [rounds_succ]
  go_wp2_with fail
  exact bodyPost_ret (v := .tuple #[.agg #[.int .i64 0, .int .i64 0, .string E, .bool false], .string sDone]) (by simp [results, Tryd.results53, go_sem]) rfl ⟨rfl, (by repeat (first | exact Nw.refl _ | assumption | apply Nw.alloc | apply Nw.drew | refine Nw.setCell ?_ (by simp <;> omega) _))⟩
set_option maxRecDepth 100000 in
set_option maxHeartbeats 1000000 in
theorem lift_3b (k : Int) (k1 n1 : Int) (s1 : ByteArray) (b1 : Bool) (k2 n2 : Int) (s2 : ByteArray) (b2 : Bool) (f : Value) (w : World) (h1 : (k1 != 0) = false) (h3 : (k2 != 0) = true) (h4 : (k2 != k) = false) (h5 : (k1 == 0) = true) : Calls Tryd.prog 53 #[.int .i64 k, .agg #[.int .i64 k1, .int .i64 n1, .string s1, .bool b1], .agg #[.int .i64 k2, .int .i64 n2, .string s2, .bool b2], f] w fun e w' => e = .returned (.tuple #[.agg #[.int .i64 0, .int .i64 0, .string E, .bool false], .string sDone]) ∧ Nw w w' := by
  have i0 : ∀ w, (Instr.index 84 (.agg #[.int .i64 k1, .int .i64 n1, .string s1, .bool b1, .int .i64 k2, .int .i64 n2, .string s2, .bool b2]) (.int .i64 0)).run Tryd.prog w = .ok (.agg #[.int .i64 k1, .int .i64 n1, .string s1, .bool b1]) w := fun _ => by kernel_rfl
  have i1 : ∀ w, (Instr.index 84 (.agg #[.int .i64 k1, .int .i64 n1, .string s1, .bool b1, .int .i64 k2, .int .i64 n2, .string s2, .bool b2]) (.int .i64 1)).run Tryd.prog w = .ok (.agg #[.int .i64 k2, .int .i64 n2, .string s2, .bool b2]) w := fun _ => by kernel_rfl
  go_enter Tryd.func53, Tryd.ntmps53
  go_wp2
  refine wp_loop_rounds 3 ?_
  rw [rounds_succ]
  go_wp2_with fail
  rw [rounds_succ]
  go_wp2_with fail
  rw [rounds_succ]
  go_wp2_with fail
  exact bodyPost_ret (v := .tuple #[.agg #[.int .i64 0, .int .i64 0, .string E, .bool false], .string sDone]) (by simp [results, Tryd.results53, go_sem]) rfl ⟨rfl, (by repeat (first | exact Nw.refl _ | assumption | apply Nw.alloc | apply Nw.drew | refine Nw.setCell ?_ (by simp <;> omega) _))⟩
set_option maxRecDepth 100000 in
set_option maxHeartbeats 1000000 in
theorem lift_3c (k : Int) (k1 n1 : Int) (s1 : ByteArray) (b1 : Bool) (k2 n2 : Int) (s2 : ByteArray) (b2 : Bool) (f : Value) (w : World) (h1 : (k1 != 0) = true) (h2 : (k1 != k) = false) (h3 : (k2 != 0) = false) (h5 : (k1 == 0) = false) (h6 : (k2 == 0) = true) : Calls Tryd.prog 53 #[.int .i64 k, .agg #[.int .i64 k1, .int .i64 n1, .string s1, .bool b1], .agg #[.int .i64 k2, .int .i64 n2, .string s2, .bool b2], f] w fun e w' => e = .returned (.tuple #[.agg #[.int .i64 0, .int .i64 0, .string E, .bool false], .string sDone]) ∧ Nw w w' := by
  have i0 : ∀ w, (Instr.index 84 (.agg #[.int .i64 k1, .int .i64 n1, .string s1, .bool b1, .int .i64 k2, .int .i64 n2, .string s2, .bool b2]) (.int .i64 0)).run Tryd.prog w = .ok (.agg #[.int .i64 k1, .int .i64 n1, .string s1, .bool b1]) w := fun _ => by kernel_rfl
  have i1 : ∀ w, (Instr.index 84 (.agg #[.int .i64 k1, .int .i64 n1, .string s1, .bool b1, .int .i64 k2, .int .i64 n2, .string s2, .bool b2]) (.int .i64 1)).run Tryd.prog w = .ok (.agg #[.int .i64 k2, .int .i64 n2, .string s2, .bool b2]) w := fun _ => by kernel_rfl
  go_enter Tryd.func53, Tryd.ntmps53
  go_wp2
  refine wp_loop_rounds 3 ?_
  rw [rounds_succ]
  go_wp2_with fail
  rw [rounds_succ]
  go_wp2_with fail
  rw [rounds_succ]
  go_wp2_with fail
  exact bodyPost_ret (v := .tuple #[.agg #[.int .i64 0, .int .i64 0, .string E, .bool false], .string sDone]) (by simp [results, Tryd.results53, go_sem]) rfl ⟨rfl, (by repeat (first | exact Nw.refl _ | assumption | apply Nw.alloc | apply Nw.drew | refine Nw.setCell ?_ (by simp <;> omega) _))⟩
set_option maxRecDepth 100000 in
set_option maxHeartbeats 1000000 in
theorem lift_4_58 (k : Int) (k1 n1 : Int) (s1 : ByteArray) (b1 : Bool) (k2 n2 : Int) (s2 : ByteArray) (b2 : Bool) (p q : Addr) (kr nr : Int) (sr : ByteArray) (br : Bool) (st : ByteArray) (w : World) (h1 : (k1 != 0) = true) (h2 : (k1 != k) = false) (h3 : (k2 != 0) = true) (h4 : (k2 != k) = false) (h5 : (k1 == 0) = false) (h6 : (k2 == 0) = false)
    (hdo : ∀ W, Nw w W → Calls Tryd.prog 58 #[.pointer (some p), .pointer (some q)] W fun e w' => e = .returned (.tuple #[.agg #[.int .i64 kr, .int .i64 nr, .string sr, .bool br], .string st]) ∧ Nw W w') :
    Calls Tryd.prog 53 #[.int .i64 k, .agg #[.int .i64 k1, .int .i64 n1, .string s1, .bool b1], .agg #[.int .i64 k2, .int .i64 n2, .string s2, .bool b2], .func (.func 58) #[] #[.pointer (some p), .pointer (some q)]] w fun e w' => e = .returned (.tuple #[.agg #[.int .i64 kr, .int .i64 nr, .string sr, .bool br], .string st]) ∧ Nw w w' := by
  have HD := Lib.hid hdo
  clear hdo
  have i0 : ∀ w, (Instr.index 84 (.agg #[.int .i64 k1, .int .i64 n1, .string s1, .bool b1, .int .i64 k2, .int .i64 n2, .string s2, .bool b2]) (.int .i64 0)).run Tryd.prog w = .ok (.agg #[.int .i64 k1, .int .i64 n1, .string s1, .bool b1]) w := fun _ => by kernel_rfl
  have i1 : ∀ w, (Instr.index 84 (.agg #[.int .i64 k1, .int .i64 n1, .string s1, .bool b1, .int .i64 k2, .int .i64 n2, .string s2, .bool b2]) (.int .i64 1)).run Tryd.prog w = .ok (.agg #[.int .i64 k2, .int .i64 n2, .string s2, .bool b2]) w := fun _ => by kernel_rfl
  go_enter Tryd.func53, Tryd.ntmps53
  go_wp2
  refine wp_loop_rounds 3 ?_
  rw [rounds_succ]
  go_wp2_with fail
  rw [rounds_succ]
  go_wp2_with fail
  rw [rounds_succ]
  go_wp2_with fail
  refine (HD.out _ (by repeat (first | exact Nw.refl _ | assumption | apply Nw.alloc | apply Nw.drew | refine Nw.setCell ?_ (by simp <;> omega) _))).mono ?_
  rintro e w1 ⟨rfl, hb⟩
  obtain ⟨q1, q2⟩ := hb.at_ (w.heap.size + 2) (by simp <;> omega)
  have hz := hb.size
  (try simp at hz)
  have G := Lib.hid hb
  clear hb
  go_wp2_with fail
  exact bodyPost_ret (v := .tuple #[.agg #[.int .i64 kr, .int .i64 nr, .string sr, .bool br], .string st]) (by simp [results, Tryd.results53, go_sem, q1]) rfl ⟨rfl, (by repeat (first | exact Nw.refl _ | exact Nw.to (b := _) (by repeat (first | exact Nw.refl _ | assumption | apply Nw.alloc | apply Nw.drew | refine Nw.setCell ?_ (by simp <;> omega) _)) G.out | apply Nw.alloc | apply Nw.drew | refine Nw.setCell ?_ (by simp <;> omega) _))⟩
set_option maxRecDepth 100000 in
set_option maxHeartbeats 1000000 in
theorem lift_4_60 (k : Int) (k1 n1 : Int) (s1 : ByteArray) (b1 : Bool) (k2 n2 : Int) (s2 : ByteArray) (b2 : Bool) (p q : Addr) (kr nr : Int) (sr : ByteArray) (br : Bool) (st : ByteArray) (w : World) (h1 : (k1 != 0) = true) (h2 : (k1 != k) = false) (h3 : (k2 != 0) = true) (h4 : (k2 != k) = false) (h5 : (k1 == 0) = false) (h6 : (k2 == 0) = false)
    (hdo : ∀ W, Nw w W → Calls Tryd.prog 60 #[.pointer (some p), .pointer (some q)] W fun e w' => e = .returned (.tuple #[.agg #[.int .i64 kr, .int .i64 nr, .string sr, .bool br], .string st]) ∧ Nw W w') :
    Calls Tryd.prog 53 #[.int .i64 k, .agg #[.int .i64 k1, .int .i64 n1, .string s1, .bool b1], .agg #[.int .i64 k2, .int .i64 n2, .string s2, .bool b2], .func (.func 60) #[] #[.pointer (some p), .pointer (some q)]] w fun e w' => e = .returned (.tuple #[.agg #[.int .i64 kr, .int .i64 nr, .string sr, .bool br], .string st]) ∧ Nw w w' := by
  have HD := Lib.hid hdo
  clear hdo
  have i0 : ∀ w, (Instr.index 84 (.agg #[.int .i64 k1, .int .i64 n1, .string s1, .bool b1, .int .i64 k2, .int .i64 n2, .string s2, .bool b2]) (.int .i64 0)).run Tryd.prog w = .ok (.agg #[.int .i64 k1, .int .i64 n1, .string s1, .bool b1]) w := fun _ => by kernel_rfl
  have i1 : ∀ w, (Instr.index 84 (.agg #[.int .i64 k1, .int .i64 n1, .string s1, .bool b1, .int .i64 k2, .int .i64 n2, .string s2, .bool b2]) (.int .i64 1)).run Tryd.prog w = .ok (.agg #[.int .i64 k2, .int .i64 n2, .string s2, .bool b2]) w := fun _ => by kernel_rfl
  go_enter Tryd.func53, Tryd.ntmps53
  go_wp2
  refine wp_loop_rounds 3 ?_
  rw [rounds_succ]
  go_wp2_with fail
  rw [rounds_succ]
  go_wp2_with fail
  rw [rounds_succ]
  go_wp2_with fail
  refine (HD.out _ (by repeat (first | exact Nw.refl _ | assumption | apply Nw.alloc | apply Nw.drew | refine Nw.setCell ?_ (by simp <;> omega) _))).mono ?_
  rintro e w1 ⟨rfl, hb⟩
  obtain ⟨q1, q2⟩ := hb.at_ (w.heap.size + 2) (by simp <;> omega)
  have hz := hb.size
  (try simp at hz)
  have G := Lib.hid hb
  clear hb
  go_wp2_with fail
  exact bodyPost_ret (v := .tuple #[.agg #[.int .i64 kr, .int .i64 nr, .string sr, .bool br], .string st]) (by simp [results, Tryd.results53, go_sem, q1]) rfl ⟨rfl, (by repeat (first | exact Nw.refl _ | exact Nw.to (b := _) (by repeat (first | exact Nw.refl _ | assumption | apply Nw.alloc | apply Nw.drew | refine Nw.setCell ?_ (by simp <;> omega) _)) G.out | apply Nw.alloc | apply Nw.drew | refine Nw.setCell ?_ (by simp <;> omega) _))⟩
set_option maxRecDepth 100000 in
set_option maxHeartbeats 1000000 in
theorem lift_4_61 (k : Int) (k1 n1 : Int) (s1 : ByteArray) (b1 : Bool) (k2 n2 : Int) (s2 : ByteArray) (b2 : Bool) (p q : Addr) (kr nr : Int) (sr : ByteArray) (br : Bool) (st : ByteArray) (w : World) (h1 : (k1 != 0) = true) (h2 : (k1 != k) = false) (h3 : (k2 != 0) = true) (h4 : (k2 != k) = false) (h5 : (k1 == 0) = false) (h6 : (k2 == 0) = false)
    (hdo : ∀ W, Nw w W → Calls Tryd.prog 61 #[.pointer (some p), .pointer (some q)] W fun e w' => e = .returned (.tuple #[.agg #[.int .i64 kr, .int .i64 nr, .string sr, .bool br], .string st]) ∧ Nw W w') :
    Calls Tryd.prog 53 #[.int .i64 k, .agg #[.int .i64 k1, .int .i64 n1, .string s1, .bool b1], .agg #[.int .i64 k2, .int .i64 n2, .string s2, .bool b2], .func (.func 61) #[] #[.pointer (some p), .pointer (some q)]] w fun e w' => e = .returned (.tuple #[.agg #[.int .i64 kr, .int .i64 nr, .string sr, .bool br], .string st]) ∧ Nw w w' := by
  have HD := Lib.hid hdo
  clear hdo
  have i0 : ∀ w, (Instr.index 84 (.agg #[.int .i64 k1, .int .i64 n1, .string s1, .bool b1, .int .i64 k2, .int .i64 n2, .string s2, .bool b2]) (.int .i64 0)).run Tryd.prog w = .ok (.agg #[.int .i64 k1, .int .i64 n1, .string s1, .bool b1]) w := fun _ => by kernel_rfl
  have i1 : ∀ w, (Instr.index 84 (.agg #[.int .i64 k1, .int .i64 n1, .string s1, .bool b1, .int .i64 k2, .int .i64 n2, .string s2, .bool b2]) (.int .i64 1)).run Tryd.prog w = .ok (.agg #[.int .i64 k2, .int .i64 n2, .string s2, .bool b2]) w := fun _ => by kernel_rfl
  go_enter Tryd.func53, Tryd.ntmps53
  go_wp2
  refine wp_loop_rounds 3 ?_
  rw [rounds_succ]
  go_wp2_with fail
  rw [rounds_succ]
  go_wp2_with fail
  rw [rounds_succ]
  go_wp2_with fail
  refine (HD.out _ (by repeat (first | exact Nw.refl _ | assumption | apply Nw.alloc | apply Nw.drew | refine Nw.setCell ?_ (by simp <;> omega) _))).mono ?_
  rintro e w1 ⟨rfl, hb⟩
  obtain ⟨q1, q2⟩ := hb.at_ (w.heap.size + 2) (by simp <;> omega)
  have hz := hb.size
  (try simp at hz)
  have G := Lib.hid hb
  clear hb
  go_wp2_with fail
  exact bodyPost_ret (v := .tuple #[.agg #[.int .i64 kr, .int .i64 nr, .string sr, .bool br], .string st]) (by simp [results, Tryd.results53, go_sem, q1]) rfl ⟨rfl, (by repeat (first | exact Nw.refl _ | exact Nw.to (b := _) (by repeat (first | exact Nw.refl _ | assumption | apply Nw.alloc | apply Nw.drew | refine Nw.setCell ?_ (by simp <;> omega) _)) G.out | apply Nw.alloc | apply Nw.drew | refine Nw.setCell ?_ (by simp <;> omega) _))⟩
set_option maxRecDepth 100000 in
set_option maxHeartbeats 1000000 in
theorem lift_4_62 (k : Int) (k1 n1 : Int) (s1 : ByteArray) (b1 : Bool) (k2 n2 : Int) (s2 : ByteArray) (b2 : Bool) (p q : Addr) (kr nr : Int) (sr : ByteArray) (br : Bool) (st : ByteArray) (w : World) (h1 : (k1 != 0) = true) (h2 : (k1 != k) = false) (h3 : (k2 != 0) = true) (h4 : (k2 != k) = false) (h5 : (k1 == 0) = false) (h6 : (k2 == 0) = false)
    (hdo : ∀ W, Nw w W → Calls Tryd.prog 62 #[.pointer (some p), .pointer (some q)] W fun e w' => e = .returned (.tuple #[.agg #[.int .i64 kr, .int .i64 nr, .string sr, .bool br], .string st]) ∧ Nw W w') :
    Calls Tryd.prog 53 #[.int .i64 k, .agg #[.int .i64 k1, .int .i64 n1, .string s1, .bool b1], .agg #[.int .i64 k2, .int .i64 n2, .string s2, .bool b2], .func (.func 62) #[] #[.pointer (some p), .pointer (some q)]] w fun e w' => e = .returned (.tuple #[.agg #[.int .i64 kr, .int .i64 nr, .string sr, .bool br], .string st]) ∧ Nw w w' := by
  have HD := Lib.hid hdo
  clear hdo
  have i0 : ∀ w, (Instr.index 84 (.agg #[.int .i64 k1, .int .i64 n1, .string s1, .bool b1, .int .i64 k2, .int .i64 n2, .string s2, .bool b2]) (.int .i64 0)).run Tryd.prog w = .ok (.agg #[.int .i64 k1, .int .i64 n1, .string s1, .bool b1]) w := fun _ => by kernel_rfl
  have i1 : ∀ w, (Instr.index 84 (.agg #[.int .i64 k1, .int .i64 n1, .string s1, .bool b1, .int .i64 k2, .int .i64 n2, .string s2, .bool b2]) (.int .i64 1)).run Tryd.prog w = .ok (.agg #[.int .i64 k2, .int .i64 n2, .string s2, .bool b2]) w := fun _ => by kernel_rfl
  go_enter Tryd.func53, Tryd.ntmps53
  go_wp2
  refine wp_loop_rounds 3 ?_
  rw [rounds_succ]
  go_wp2_with fail
  rw [rounds_succ]
  go_wp2_with fail
  rw [rounds_succ]
  go_wp2_with fail
  refine (HD.out _ (by repeat (first | exact Nw.refl _ | assumption | apply Nw.alloc | apply Nw.drew | refine Nw.setCell ?_ (by simp <;> omega) _))).mono ?_
  rintro e w1 ⟨rfl, hb⟩
  obtain ⟨q1, q2⟩ := hb.at_ (w.heap.size + 2) (by simp <;> omega)
  have hz := hb.size
  (try simp at hz)
  have G := Lib.hid hb
  clear hb
  go_wp2_with fail
  exact bodyPost_ret (v := .tuple #[.agg #[.int .i64 kr, .int .i64 nr, .string sr, .bool br], .string st]) (by simp [results, Tryd.results53, go_sem, q1]) rfl ⟨rfl, (by repeat (first | exact Nw.refl _ | exact Nw.to (b := _) (by repeat (first | exact Nw.refl _ | assumption | apply Nw.alloc | apply Nw.drew | refine Nw.setCell ?_ (by simp <;> omega) _)) G.out | apply Nw.alloc | apply Nw.drew | refine Nw.setCell ?_ (by simp <;> omega) _))⟩
set_option maxRecDepth 100000 in
set_option maxHeartbeats 1000000 in
theorem lift_4_54 (k : Int) (k1 n1 : Int) (s1 : ByteArray) (b1 : Bool) (k2 n2 : Int) (s2 : ByteArray) (b2 : Bool) (p q : Addr) (kr nr : Int) (sr : ByteArray) (br : Bool) (st : ByteArray) (w : World) (h1 : (k1 != 0) = true) (h2 : (k1 != k) = false) (h3 : (k2 != 0) = true) (h4 : (k2 != k) = false) (h5 : (k1 == 0) = false) (h6 : (k2 == 0) = false)
    (hdo : ∀ W, Nw w W → Calls Tryd.prog 54 #[.pointer (some p), .pointer (some q)] W fun e w' => e = .returned (.tuple #[.agg #[.int .i64 kr, .int .i64 nr, .string sr, .bool br], .string st]) ∧ Nw W w') :
    Calls Tryd.prog 53 #[.int .i64 k, .agg #[.int .i64 k1, .int .i64 n1, .string s1, .bool b1], .agg #[.int .i64 k2, .int .i64 n2, .string s2, .bool b2], .func (.func 54) #[] #[.pointer (some p), .pointer (some q)]] w fun e w' => e = .returned (.tuple #[.agg #[.int .i64 kr, .int .i64 nr, .string sr, .bool br], .string st]) ∧ Nw w w' := by
  have HD := Lib.hid hdo
  clear hdo
  have i0 : ∀ w, (Instr.index 84 (.agg #[.int .i64 k1, .int .i64 n1, .string s1, .bool b1, .int .i64 k2, .int .i64 n2, .string s2, .bool b2]) (.int .i64 0)).run Tryd.prog w = .ok (.agg #[.int .i64 k1, .int .i64 n1, .string s1, .bool b1]) w := fun _ => by kernel_rfl
  have i1 : ∀ w, (Instr.index 84 (.agg #[.int .i64 k1, .int .i64 n1, .string s1, .bool b1, .int .i64 k2, .int .i64 n2, .string s2, .bool b2]) (.int .i64 1)).run Tryd.prog w = .ok (.agg #[.int .i64 k2, .int .i64 n2, .string s2, .bool b2]) w := fun _ => by kernel_rfl
  go_enter Tryd.func53, Tryd.ntmps53
  go_wp2
  refine wp_loop_rounds 3 ?_
  rw [rounds_succ]
  go_wp2_with fail
  rw [rounds_succ]
  go_wp2_with fail
  rw [rounds_succ]
  go_wp2_with fail
  refine (HD.out _ (by repeat (first | exact Nw.refl _ | assumption | apply Nw.alloc | apply Nw.drew | refine Nw.setCell ?_ (by simp <;> omega) _))).mono ?_
  rintro e w1 ⟨rfl, hb⟩
  obtain ⟨q1, q2⟩ := hb.at_ (w.heap.size + 2) (by simp <;> omega)
  have hz := hb.size
  (try simp at hz)
  have G := Lib.hid hb
  clear hb
  go_wp2_with fail
  exact bodyPost_ret (v := .tuple #[.agg #[.int .i64 kr, .int .i64 nr, .string sr, .bool br], .string st]) (by simp [results, Tryd.results53, go_sem, q1]) rfl ⟨rfl, (by repeat (first | exact Nw.refl _ | exact Nw.to (b := _) (by repeat (first | exact Nw.refl _ | assumption | apply Nw.alloc | apply Nw.drew | refine Nw.setCell ?_ (by simp <;> omega) _)) G.out | apply Nw.alloc | apply Nw.drew | refine Nw.setCell ?_ (by simp <;> omega) _))⟩
set_option maxRecDepth 100000 in
theorem add_t (p q : Nat) (a b : Int) (w : World) (c1 : w.cell? ⟨p, 1, none⟩ = some (.int .i64 a)) (c2 : w.cell? ⟨q, 1, none⟩ = some (.int .i64 b)) (hk : (decide (a < wrap64 (a + b)) == decide (0 < b)) = true) : Calls Tryd.prog 58 #[.pointer (some ⟨p, 0, none⟩), .pointer (some ⟨q, 0, none⟩)] w fun e w' => e = .returned (.tuple #[.agg #[.int .i64 1, .int .i64 (wrap64 (a + b)), .string E, .bool false], .string sDone]) ∧ Nw w w' := by
  have lp := World.block_lt_of_cell? w _ c1
  have lq := World.block_lt_of_cell? w _ c2
  simp only at lp lq
  go_enter Tryd.func58, Tryd.ntmps58
  go_wp2_with fail
  refine (number_t _ _).mono ?_
  rintro e w1 ⟨rfl, hb⟩
  obtain ⟨q1, q2⟩ := hb.at_ w.heap.size (by simp)
  have hz := hb.size
  (try simp at hz)
  have G := Lib.hid (((Nw.refl w).alloc _).to hb)
  clear hb
  go_wp2_with fail
  exact bodyPost_ret (v := .tuple #[.agg #[.int .i64 1, .int .i64 (wrap64 (a + b)), .string E, .bool false], .string sDone]) (by simp [results, Tryd.results58, go_sem, q1]) rfl ⟨rfl, (by repeat (first | exact Nw.refl _ | exact G.out | apply Nw.alloc | apply Nw.drew | refine Nw.setCell ?_ (by simp <;> omega) _))⟩
set_option maxRecDepth 100000 in
theorem add_f (p q : Nat) (a b : Int) (w : World) (c1 : w.cell? ⟨p, 1, none⟩ = some (.int .i64 a)) (c2 : w.cell? ⟨q, 1, none⟩ = some (.int .i64 b)) (hk : (decide (a < wrap64 (a + b)) == decide (0 < b)) = false) : Calls Tryd.prog 58 #[.pointer (some ⟨p, 0, none⟩), .pointer (some ⟨q, 0, none⟩)] w fun e w' => e = .returned (.tuple #[.agg #[.int .i64 0, .int .i64 0, .string E, .bool false], .string sRange]) ∧ Nw w w' := by
  have lp := World.block_lt_of_cell? w _ c1
  have lq := World.block_lt_of_cell? w _ c2
  simp only at lp lq
  go_enter Tryd.func58, Tryd.ntmps58
  go_wp2_with fail
  refine (number_f _ _).mono ?_
  rintro e w1 ⟨rfl, hb⟩
  obtain ⟨q1, q2⟩ := hb.at_ w.heap.size (by simp)
  have hz := hb.size
  (try simp at hz)
  have G := Lib.hid (((Nw.refl w).alloc _).to hb)
  clear hb
  go_wp2_with fail
  exact bodyPost_ret (v := .tuple #[.agg #[.int .i64 0, .int .i64 0, .string E, .bool false], .string sRange]) (by simp [results, Tryd.results58, go_sem, q1]) rfl ⟨rfl, (by repeat (first | exact Nw.refl _ | exact G.out | apply Nw.alloc | apply Nw.drew | refine Nw.setCell ?_ (by simp <;> omega) _))⟩
set_option maxRecDepth 100000 in
theorem sub_t (p q : Nat) (a b : Int) (w : World) (c1 : w.cell? ⟨p, 1, none⟩ = some (.int .i64 a)) (c2 : w.cell? ⟨q, 1, none⟩ = some (.int .i64 b)) (hk : (decide (wrap64 (a - b) < a) == decide (0 < b)) = true) : Calls Tryd.prog 60 #[.pointer (some ⟨p, 0, none⟩), .pointer (some ⟨q, 0, none⟩)] w fun e w' => e = .returned (.tuple #[.agg #[.int .i64 1, .int .i64 (wrap64 (a - b)), .string E, .bool false], .string sDone]) ∧ Nw w w' := by
  have lp := World.block_lt_of_cell? w _ c1
  have lq := World.block_lt_of_cell? w _ c2
  simp only at lp lq
  go_enter Tryd.func60, Tryd.ntmps60
  go_wp2_with fail
  refine (number_t _ _).mono ?_
  rintro e w1 ⟨rfl, hb⟩
  obtain ⟨q1, q2⟩ := hb.at_ w.heap.size (by simp)
  have hz := hb.size
  (try simp at hz)
  have G := Lib.hid (((Nw.refl w).alloc _).to hb)
  clear hb
  go_wp2_with fail
  exact bodyPost_ret (v := .tuple #[.agg #[.int .i64 1, .int .i64 (wrap64 (a - b)), .string E, .bool false], .string sDone]) (by simp [results, Tryd.results60, go_sem, q1]) rfl ⟨rfl, (by repeat (first | exact Nw.refl _ | exact G.out | apply Nw.alloc | apply Nw.drew | refine Nw.setCell ?_ (by simp <;> omega) _))⟩
set_option maxRecDepth 100000 in
theorem sub_f (p q : Nat) (a b : Int) (w : World) (c1 : w.cell? ⟨p, 1, none⟩ = some (.int .i64 a)) (c2 : w.cell? ⟨q, 1, none⟩ = some (.int .i64 b)) (hk : (decide (wrap64 (a - b) < a) == decide (0 < b)) = false) : Calls Tryd.prog 60 #[.pointer (some ⟨p, 0, none⟩), .pointer (some ⟨q, 0, none⟩)] w fun e w' => e = .returned (.tuple #[.agg #[.int .i64 0, .int .i64 0, .string E, .bool false], .string sRange]) ∧ Nw w w' := by
  have lp := World.block_lt_of_cell? w _ c1
  have lq := World.block_lt_of_cell? w _ c2
  simp only at lp lq
  go_enter Tryd.func60, Tryd.ntmps60
  go_wp2_with fail
  refine (number_f _ _).mono ?_
  rintro e w1 ⟨rfl, hb⟩
  obtain ⟨q1, q2⟩ := hb.at_ w.heap.size (by simp)
  have hz := hb.size
  (try simp at hz)
  have G := Lib.hid (((Nw.refl w).alloc _).to hb)
  clear hb
  go_wp2_with fail
  exact bodyPost_ret (v := .tuple #[.agg #[.int .i64 0, .int .i64 0, .string E, .bool false], .string sRange]) (by simp [results, Tryd.results60, go_sem, q1]) rfl ⟨rfl, (by repeat (first | exact Nw.refl _ | exact G.out | apply Nw.alloc | apply Nw.drew | refine Nw.setCell ?_ (by simp <;> omega) _))⟩
end Vl
end Go.Proofs.YtlmkhpgnkpgbdaaDoor

namespace Go.Proofs.YtlmkhpgnkpgbdaaDoor
open Go.RowKit
set_option linter.unusedVariables false
set_option linter.unusedSimpArgs false
namespace Vl
abbrev sLong : ByteArray := ⟨#[50, 50, 48, 48, 49]⟩
theorem text_any (n : ByteArray) (w : World) : Calls Tryd.prog 55 #[.string n] w fun e w' => e = .returned (.agg #[.int .i64 2, .int .i64 0, .string n, .bool false]) ∧ Nw w w' := by
  go_enter Tryd.func55, Tryd.ntmps55
  go_wp2
  exact bodyPost_ret (v := .agg #[.int .i64 2, .int .i64 0, .string n, .bool false]) (by simp [results, Tryd.results55, go_sem]) rfl ⟨rfl, (Nw.refl w).alloc _⟩
/-- what an operation on values of kind k comes to, do: on what is in them -/
def liftV (k : Int) (x y : Vl) (r : Vl × ByteArray) : Vl × ByteArray :=
  if (x.k ≠ 0 ∧ x.k ≠ k) ∨ (y.k ≠ 0 ∧ y.k ≠ k) then (.null, sMis) else if x.k = 0 ∨ y.k = 0 then (.null, sDone) else r
def inR (ok : Bool) (n : Int) : Vl × ByteArray := if ok then (.num n, sDone) else (.null, sRange)
def addD (a b : Int) : Vl × ByteArray := inR (decide (a < wrap64 (a + b)) == decide (0 < b)) (wrap64 (a + b))
def subD (a b : Int) : Vl × ByteArray := inR (decide (wrap64 (a - b) < a) == decide (0 < b)) (wrap64 (a - b))
def addV (x y : Vl) : Vl × ByteArray := liftV 1 x y (addD x.n y.n)
def subV (x y : Vl) : Vl × ByteArray := liftV 1 x y (subD x.n y.n)
end Vl
end Go.Proofs.YtlmkhpgnkpgbdaaDoor

namespace Go.Proofs.YtlmkhpgnkpgbdaaDoor
open Go.RowKit
set_option linter.unusedVariables false
set_option linter.unusedSimpArgs false
namespace Vl
abbrev sZero : ByteArray := ⟨#[50, 50, 48, 49, 50]⟩
theorem div_0 (p q : Nat) (w : World) (k1 : w.cell? ⟨p, 1, none⟩ = some (.int .i64 0)) : Calls Tryd.prog 61 #[.pointer (some ⟨p, 0, none⟩), .pointer (some ⟨q, 0, none⟩)] w fun e w' => e = .returned (.tuple #[.agg #[.int .i64 0, .int .i64 0, .string E, .bool false], .string sZero]) ∧ Nw w w' := by
  have lp := World.block_lt_of_cell? w _ k1
  simp only at lp
  go_enter Tryd.func61, Tryd.ntmps61
  go_wp2
  exact bodyPost_ret (v := .tuple #[.agg #[.int .i64 0, .int .i64 0, .string E, .bool false], .string sZero]) (by simp [results, Tryd.results61, go_sem]) rfl ⟨rfl, (by repeat (first | exact Nw.refl _ | assumption | apply Nw.alloc | apply Nw.drew | refine Nw.setCell ?_ (by simp <;> omega) _))⟩
set_option maxHeartbeats 1000000 in
set_option maxRecDepth 100000 in
theorem div_1 (p q : Nat) (a b : Int) (w : World) (k1 : w.cell? ⟨p, 1, none⟩ = some (.int .i64 b)) (k2 : w.cell? ⟨q, 1, none⟩ = some (.int .i64 a)) (h0 : (b == 0) = false) (h00 : ¬ b = 0) (h1 : (a != -9223372036854775808) = true) : Calls Tryd.prog 61 #[.pointer (some ⟨p, 0, none⟩), .pointer (some ⟨q, 0, none⟩)] w fun e w' => e = .returned (.tuple #[.agg #[.int .i64 1, .int .i64 (wrap64 (a.tdiv b)), .string E, .bool false], .string sDone]) ∧ Nw w w' := by
  have lp := World.block_lt_of_cell? w _ k1
  have lq := World.block_lt_of_cell? w _ k2
  simp only at lp lq
  have np : ¬ p = w.heap.size := by omega
  have nq : ¬ q = w.heap.size := by omega
  have np' : ¬ w.heap.size = p := by omega
  have nq' : ¬ w.heap.size = q := by omega
  go_enter Tryd.func61, Tryd.ntmps61
  go_wp2_with fail
  refine Go.Proofs.YtlmkhpgnkpgbdaaDoorW.PrintLast.start_ (n := 18) (S := fun v => v.cell? ⟨p, 1, none⟩ = some (.int .i64 b) ∧ v.cell? ⟨q, 1, none⟩ = some (.int .i64 a)) (ds := []) #[false, false, false, false, false, false, false, false, false, false, false, false, false, false, false, false, false, false] (by kernel_rfl) rfl rfl ⟨by go_simp, by go_simp⟩ (fun hHeld => ?_)
  refine Go.Proofs.YtlmkhpgnkpgbdaaDoorW.PrintLast.pure_ (i := 0) (N := some 8) (v := ?_) (a' := ?_) #[true, false, false, false, false, false, false, false, false, false, false, false, false, false, false, false, false, false] rfl rfl (by kernel_rfl) (fun _ _ _ h => h) (Or.inl ⟨by rfl, ?_⟩) ?_ ?_
  rotate_left
  · intro w'
    go_simp
    with_reducible rfl
  rotate_left
  · simp only [Act.put, List.setIfInBounds_toArray, List.set_cons_zero, List.set_cons_succ, Go.Proofs.YtlmkhpgnkpgbdaaDoorW.PrintLast.i64_w, Go.Proofs.YtlmkhpgnkpgbdaaDoorW.PrintLast.i32_w]
    rfl
  refine Go.Proofs.YtlmkhpgnkpgbdaaDoorW.PrintLast.take_ (i := 1) (N := some 9) (v := ?_) (a' := ?_) #[true, true, false, false, false, false, false, false, false, false, false, false, false, false, false, false, false, false] rfl rfl (by kernel_rfl) (fun _ _ _ h => h) (Or.inl ⟨by rfl, ?_⟩) hHeld ?_ ?_
  rotate_left
  · rintro w' ⟨s0, s1⟩
    go_simp
    with_reducible rfl
  rotate_left
  · simp only [Act.put, List.setIfInBounds_toArray, List.set_cons_zero, List.set_cons_succ, Go.Proofs.YtlmkhpgnkpgbdaaDoorW.PrintLast.i64_w, Go.Proofs.YtlmkhpgnkpgbdaaDoorW.PrintLast.i32_w]
    rfl
  refine Go.Proofs.YtlmkhpgnkpgbdaaDoorW.PrintLast.pure_ (i := 2) (N := some 10) (v := ?_) (a' := ?_) #[true, true, true, false, false, false, false, false, false, false, false, false, false, false, false, false, false, false] rfl rfl (by kernel_rfl) (fun _ _ _ h => h) (Or.inl ⟨by rfl, ?_⟩) ?_ ?_
  rotate_left
  · intro w'
    go_simp
    with_reducible rfl
  rotate_left
  · simp only [Act.put, List.setIfInBounds_toArray, List.set_cons_zero, List.set_cons_succ, Go.Proofs.YtlmkhpgnkpgbdaaDoorW.PrintLast.i64_w, Go.Proofs.YtlmkhpgnkpgbdaaDoorW.PrintLast.i32_w]
    rfl
  refine Go.Proofs.YtlmkhpgnkpgbdaaDoorW.PrintLast.take_ (i := 3) (N := some 11) (v := ?_) (a' := ?_) #[true, true, true, true, false, false, false, false, false, false, false, false, false, false, false, false, false, false] rfl rfl (by kernel_rfl) (fun _ _ _ h => h) (Or.inl ⟨by rfl, ?_⟩) hHeld ?_ ?_
  rotate_left
  · rintro w' ⟨s0, s1⟩
    go_simp
    with_reducible rfl
  rotate_left
  · simp only [Act.put, List.setIfInBounds_toArray, List.set_cons_zero, List.set_cons_succ, Go.Proofs.YtlmkhpgnkpgbdaaDoorW.PrintLast.i64_w, Go.Proofs.YtlmkhpgnkpgbdaaDoorW.PrintLast.i32_w]
    rfl
  refine Go.Proofs.YtlmkhpgnkpgbdaaDoorW.PrintLast.pure_ (i := 4) (N := some 12) (v := ?_) (a' := ?_) #[true, true, true, true, true, false, false, false, false, false, false, false, false, false, false, false, false, false] rfl rfl (by kernel_rfl) (fun _ _ _ h => h) (Or.inl ⟨by rfl, ?_⟩) ?_ ?_
  rotate_left
  · intro w'
    go_simp
    with_reducible rfl
  rotate_left
  · simp only [Act.put, List.setIfInBounds_toArray, List.set_cons_zero, List.set_cons_succ, Go.Proofs.YtlmkhpgnkpgbdaaDoorW.PrintLast.i64_w, Go.Proofs.YtlmkhpgnkpgbdaaDoorW.PrintLast.i32_w]
    rfl
  refine Go.Proofs.YtlmkhpgnkpgbdaaDoorW.PrintLast.pure_ (i := 5) (N := some 13) (v := ?_) (a' := ?_) #[true, true, true, true, true, true, false, false, false, false, false, false, false, false, false, false, false, false] rfl rfl (by kernel_rfl) (fun _ _ _ h => h) (Or.inl ⟨by rfl, ?_⟩) ?_ ?_
  rotate_left
  · intro w'
    go_simp
    with_reducible rfl
  rotate_left
  · simp only [Act.put, List.setIfInBounds_toArray, List.set_cons_zero, List.set_cons_succ, Go.Proofs.YtlmkhpgnkpgbdaaDoorW.PrintLast.i64_w, Go.Proofs.YtlmkhpgnkpgbdaaDoorW.PrintLast.i32_w]
    rfl
  refine Go.Proofs.YtlmkhpgnkpgbdaaDoorW.PrintLast.take_ (i := 6) (N := some 14) (v := ?_) (a' := ?_) #[true, true, true, true, true, true, true, false, false, false, false, false, false, false, false, false, false, false] rfl rfl (by kernel_rfl) (fun _ _ _ h => h) (Or.inl ⟨by rfl, ?_⟩) hHeld ?_ ?_
  rotate_left
  · rintro w' ⟨s0, s1⟩
    go_simp
    with_reducible rfl
  rotate_left
  · simp only [Act.put, List.setIfInBounds_toArray, List.set_cons_zero, List.set_cons_succ, Go.Proofs.YtlmkhpgnkpgbdaaDoorW.PrintLast.i64_w, Go.Proofs.YtlmkhpgnkpgbdaaDoorW.PrintLast.i32_w]
    rfl
  refine Go.Proofs.YtlmkhpgnkpgbdaaDoorW.PrintLast.pure_ (i := 7) (N := some 15) (v := ?_) (a' := ?_) #[true, true, true, true, true, true, true, true, false, false, false, false, false, false, false, false, false, false] rfl rfl (by kernel_rfl) (fun _ _ _ h => h) (Or.inl ⟨by rfl, ?_⟩) ?_ ?_
  rotate_left
  · intro w'
    go_simp
    with_reducible rfl
  rotate_left
  · simp only [Act.put, List.setIfInBounds_toArray, List.set_cons_zero, List.set_cons_succ, Go.Proofs.YtlmkhpgnkpgbdaaDoorW.PrintLast.i64_w, Go.Proofs.YtlmkhpgnkpgbdaaDoorW.PrintLast.i32_w]
    rfl
  refine Go.Proofs.YtlmkhpgnkpgbdaaDoorW.PrintLast.pure_ (i := 8) (N := some 16) (v := ?_) (a' := ?_) #[true, true, true, true, true, true, true, true, true, false, false, false, false, false, false, false, false, false] rfl rfl (by kernel_rfl) (fun _ _ _ h => h) (Or.inl ⟨by rfl, ?_⟩) ?_ ?_
  rotate_left
  · intro w'
    go_simp
    with_reducible rfl
  rotate_left
  · simp only [Act.put, List.setIfInBounds_toArray, List.set_cons_zero, List.set_cons_succ, Go.Proofs.YtlmkhpgnkpgbdaaDoorW.PrintLast.i64_w, Go.Proofs.YtlmkhpgnkpgbdaaDoorW.PrintLast.i32_w]
    rfl
  refine Go.Proofs.YtlmkhpgnkpgbdaaDoorW.PrintLast.pure_ (i := 9) (N := some 17) (v := _) (a' := ?_) #[true, true, true, true, true, true, true, true, true, true, false, false, false, false, false, false, false, false] rfl rfl (by kernel_rfl) (fun _ _ _ h => h) (Or.inr ⟨by rfl, rfl⟩) ?_ ?_
  rotate_left
  · simp only [Act.put, List.setIfInBounds_toArray, List.set_cons_zero, List.set_cons_succ, Go.Proofs.YtlmkhpgnkpgbdaaDoorW.PrintLast.i64_w, Go.Proofs.YtlmkhpgnkpgbdaaDoorW.PrintLast.i32_w]
    rfl
  refine Go.Proofs.YtlmkhpgnkpgbdaaDoorW.PrintLast.pure_ (i := 10) (N := some 18) (v := _) (a' := ?_) #[true, true, true, true, true, true, true, true, true, true, true, false, false, false, false, false, false, false] rfl rfl (by kernel_rfl) (fun _ _ _ h => h) (Or.inr ⟨by rfl, rfl⟩) ?_ ?_
  rotate_left
  · simp only [Act.put, List.setIfInBounds_toArray, List.set_cons_zero, List.set_cons_succ, Go.Proofs.YtlmkhpgnkpgbdaaDoorW.PrintLast.i64_w, Go.Proofs.YtlmkhpgnkpgbdaaDoorW.PrintLast.i32_w]
    rfl
  refine Go.Proofs.YtlmkhpgnkpgbdaaDoorW.PrintLast.pure_ (i := 11) (N := some 19) (v := _) (a' := ?_) #[true, true, true, true, true, true, true, true, true, true, true, true, false, false, false, false, false, false] rfl rfl (by kernel_rfl) (fun _ _ _ h => h) (Or.inr ⟨by rfl, rfl⟩) ?_ ?_
  rotate_left
  · simp only [Act.put, List.setIfInBounds_toArray, List.set_cons_zero, List.set_cons_succ, Go.Proofs.YtlmkhpgnkpgbdaaDoorW.PrintLast.i64_w, Go.Proofs.YtlmkhpgnkpgbdaaDoorW.PrintLast.i32_w]
    rfl
  refine Go.Proofs.YtlmkhpgnkpgbdaaDoorW.PrintLast.pure_ (i := 12) (N := some 20) (v := ?_) (a' := ?_) #[true, true, true, true, true, true, true, true, true, true, true, true, true, false, false, false, false, false] rfl rfl (by kernel_rfl) (fun _ _ _ h => h) (Or.inl ⟨by rfl, ?_⟩) ?_ ?_
  rotate_left
  · intro w'
    go_simp
    with_reducible rfl
  rotate_left
  · simp only [Act.put, List.setIfInBounds_toArray, List.set_cons_zero, List.set_cons_succ, Go.Proofs.YtlmkhpgnkpgbdaaDoorW.PrintLast.i64_w, Go.Proofs.YtlmkhpgnkpgbdaaDoorW.PrintLast.i32_w]
    rfl
  refine Go.Proofs.YtlmkhpgnkpgbdaaDoorW.PrintLast.one_ (i := 13) (N := some 21) #[true, true, true, true, true, true, true, true, true, true, true, true, true, true, false, false, false, false] rfl rfl (by kernel_rfl) (by decide) (fun K hK => ?_)
  refine Go.Proofs.YtlmkhpgnkpgbdaaDoorW.PrintLast.goes_ Tryd.func59 (by kernel_rfl) rfl #[.int .i64 (wrap64 (a.tdiv b)), .bool true] (by rfl) rfl rfl (by (try simp only [List.map_toArray, List.map_cons, List.map_nil]); first | done | rfl) ?_
  refine (number_t _ _).mono ?_
  rintro e w1 ⟨rfl, hb⟩
  refine ⟨_, rfl, ?_⟩
  obtain ⟨a1, b1⟩ := hb.at_ p (by simp <;> omega)
  obtain ⟨a2, b2⟩ := hb.at_ q (by simp <;> omega)
  obtain ⟨c1, d1⟩ := hb.at_ w.heap.size (by simp)
  have z1 : w.heap.size < w1.heap.size := by have hz := hb.size; simp at hz; omega
  have G1 := Lib.hid (Nw.to (((Nw.refl w).alloc _).drew) hb)
  clear hb
  refine hK.out _ _ ⟨(a1 1).trans hHeld.1, (a2 1).trans hHeld.2⟩ (fun hHeld => ?_)
  clear hK K
  refine Go.Proofs.YtlmkhpgnkpgbdaaDoorW.PrintLast.norm_ (a' := ?_) ?_ ?_
  rotate_left
  · show Act.put _ (some 21) _ = _
    simp only [Act.put, List.setIfInBounds_toArray, List.set_cons_zero, List.set_cons_succ, Go.Proofs.YtlmkhpgnkpgbdaaDoorW.PrintLast.i64_w, Go.Proofs.YtlmkhpgnkpgbdaaDoorW.PrintLast.i32_w]
    rfl
  refine Go.Proofs.YtlmkhpgnkpgbdaaDoorW.PrintLast.pure_ (i := 14) (N := some 22) (v := ?_) (a' := ?_) #[true, true, true, true, true, true, true, true, true, true, true, true, true, true, true, false, false, false] rfl rfl (by kernel_rfl) (fun _ _ _ h => h) (Or.inl ⟨by rfl, ?_⟩) ?_ ?_
  rotate_left
  · intro w'
    go_simp
    with_reducible rfl
  rotate_left
  · simp only [Act.put, List.setIfInBounds_toArray, List.set_cons_zero, List.set_cons_succ, Go.Proofs.YtlmkhpgnkpgbdaaDoorW.PrintLast.i64_w, Go.Proofs.YtlmkhpgnkpgbdaaDoorW.PrintLast.i32_w]
    rfl
  refine Go.Proofs.YtlmkhpgnkpgbdaaDoorW.PrintLast.pure_ (i := 15) (N := some 23) (v := ?_) (a' := ?_) #[true, true, true, true, true, true, true, true, true, true, true, true, true, true, true, true, false, false] rfl rfl (by kernel_rfl) (fun _ _ _ h => h) (Or.inl ⟨by rfl, ?_⟩) ?_ ?_
  rotate_left
  · intro w'
    go_simp
    with_reducible rfl
  rotate_left
  · simp only [Act.put, List.setIfInBounds_toArray, List.set_cons_zero, List.set_cons_succ, Go.Proofs.YtlmkhpgnkpgbdaaDoorW.PrintLast.i64_w, Go.Proofs.YtlmkhpgnkpgbdaaDoorW.PrintLast.i32_w]
    rfl
  refine Go.Proofs.YtlmkhpgnkpgbdaaDoorW.PrintLast.one_ (i := 16) (N := none) #[true, true, true, true, true, true, true, true, true, true, true, true, true, true, true, true, true, false] rfl rfl (by kernel_rfl) (by decide) (fun K hK => ?_)
  refine Go.Proofs.YtlmkhpgnkpgbdaaDoorW.PrintLast.skip_ (w1 := ?_) (by rfl) rfl ?_ ?_
  rotate_left
  · go_simp
    rfl
  obtain ⟨t0, t1⟩ := hHeld
  refine hK.out _ _ ⟨by go_simp, by go_simp⟩ (fun hHeld => ?_)
  clear hHeld
  clear hK K
  refine Go.Proofs.YtlmkhpgnkpgbdaaDoorW.PrintLast.pure_ (i := 17) (N := some 3) (v := ?_) (a' := ?_) #[true, true, true, true, true, true, true, true, true, true, true, true, true, true, true, true, true, true] rfl rfl (by kernel_rfl) (fun _ _ _ h => h) (Or.inl ⟨by rfl, ?_⟩) ?_ ?_
  rotate_left
  · intro w'
    go_simp
    with_reducible rfl
  rotate_left
  · simp only [Act.put, List.setIfInBounds_toArray, List.set_cons_zero, List.set_cons_succ, Go.Proofs.YtlmkhpgnkpgbdaaDoorW.PrintLast.i64_w, Go.Proofs.YtlmkhpgnkpgbdaaDoorW.PrintLast.i32_w]
    rfl
  refine Go.Proofs.YtlmkhpgnkpgbdaaDoorW.PrintLast.done_ (by kernel_rfl) ?_
  go_wp2_with fail
  exact bodyPost_ret (v := .tuple #[.agg #[.int .i64 1, .int .i64 (wrap64 (a.tdiv b)), .string E, .bool false], .string sDone]) (by simp [results, Tryd.results61, go_sem, c1]) rfl ⟨rfl, (by repeat (first | exact Nw.refl _ | exact G1.out | apply Nw.alloc | apply Nw.drew | refine Nw.setCell ?_ (by simp <;> omega) _))⟩
set_option maxHeartbeats 1000000 in
set_option maxRecDepth 100000 in
theorem div_2 (p q : Nat) (a b : Int) (w : World) (k1 : w.cell? ⟨p, 1, none⟩ = some (.int .i64 b)) (k2 : w.cell? ⟨q, 1, none⟩ = some (.int .i64 a)) (h0 : (b == 0) = false) (h00 : ¬ b = 0) (h1 : (a != -9223372036854775808) = false) (h2 : (b != -1) = true) : Calls Tryd.prog 61 #[.pointer (some ⟨p, 0, none⟩), .pointer (some ⟨q, 0, none⟩)] w fun e w' => e = .returned (.tuple #[.agg #[.int .i64 1, .int .i64 (wrap64 (a.tdiv b)), .string E, .bool false], .string sDone]) ∧ Nw w w' := by
  have lp := World.block_lt_of_cell? w _ k1
  have lq := World.block_lt_of_cell? w _ k2
  simp only at lp lq
  have np : ¬ p = w.heap.size := by omega
  have nq : ¬ q = w.heap.size := by omega
  have np' : ¬ w.heap.size = p := by omega
  have nq' : ¬ w.heap.size = q := by omega
  go_enter Tryd.func61, Tryd.ntmps61
  go_wp2_with fail
  refine Go.Proofs.YtlmkhpgnkpgbdaaDoorW.PrintLast.start_ (n := 18) (S := fun v => v.cell? ⟨p, 1, none⟩ = some (.int .i64 b) ∧ v.cell? ⟨q, 1, none⟩ = some (.int .i64 a)) (ds := []) #[false, false, false, false, false, false, false, false, false, false, false, false, false, false, false, false, false, false] (by kernel_rfl) rfl rfl ⟨by go_simp, by go_simp⟩ (fun hHeld => ?_)
  refine Go.Proofs.YtlmkhpgnkpgbdaaDoorW.PrintLast.pure_ (i := 0) (N := some 8) (v := ?_) (a' := ?_) #[true, false, false, false, false, false, false, false, false, false, false, false, false, false, false, false, false, false] rfl rfl (by kernel_rfl) (fun _ _ _ h => h) (Or.inl ⟨by rfl, ?_⟩) ?_ ?_
  rotate_left
  · intro w'
    go_simp
    with_reducible rfl
  rotate_left
  · simp only [Act.put, List.setIfInBounds_toArray, List.set_cons_zero, List.set_cons_succ, Go.Proofs.YtlmkhpgnkpgbdaaDoorW.PrintLast.i64_w, Go.Proofs.YtlmkhpgnkpgbdaaDoorW.PrintLast.i32_w]
    rfl
  refine Go.Proofs.YtlmkhpgnkpgbdaaDoorW.PrintLast.take_ (i := 1) (N := some 9) (v := ?_) (a' := ?_) #[true, true, false, false, false, false, false, false, false, false, false, false, false, false, false, false, false, false] rfl rfl (by kernel_rfl) (fun _ _ _ h => h) (Or.inl ⟨by rfl, ?_⟩) hHeld ?_ ?_
  rotate_left
  · rintro w' ⟨s0, s1⟩
    go_simp
    with_reducible rfl
  rotate_left
  · simp only [Act.put, List.setIfInBounds_toArray, List.set_cons_zero, List.set_cons_succ, Go.Proofs.YtlmkhpgnkpgbdaaDoorW.PrintLast.i64_w, Go.Proofs.YtlmkhpgnkpgbdaaDoorW.PrintLast.i32_w]
    rfl
  refine Go.Proofs.YtlmkhpgnkpgbdaaDoorW.PrintLast.pure_ (i := 2) (N := some 10) (v := ?_) (a' := ?_) #[true, true, true, false, false, false, false, false, false, false, false, false, false, false, false, false, false, false] rfl rfl (by kernel_rfl) (fun _ _ _ h => h) (Or.inl ⟨by rfl, ?_⟩) ?_ ?_
  rotate_left
  · intro w'
    go_simp
    with_reducible rfl
  rotate_left
  · simp only [Act.put, List.setIfInBounds_toArray, List.set_cons_zero, List.set_cons_succ, Go.Proofs.YtlmkhpgnkpgbdaaDoorW.PrintLast.i64_w, Go.Proofs.YtlmkhpgnkpgbdaaDoorW.PrintLast.i32_w]
    rfl
  refine Go.Proofs.YtlmkhpgnkpgbdaaDoorW.PrintLast.take_ (i := 3) (N := some 11) (v := ?_) (a' := ?_) #[true, true, true, true, false, false, false, false, false, false, false, false, false, false, false, false, false, false] rfl rfl (by kernel_rfl) (fun _ _ _ h => h) (Or.inl ⟨by rfl, ?_⟩) hHeld ?_ ?_
  rotate_left
  · rintro w' ⟨s0, s1⟩
    go_simp
    with_reducible rfl
  rotate_left
  · simp only [Act.put, List.setIfInBounds_toArray, List.set_cons_zero, List.set_cons_succ, Go.Proofs.YtlmkhpgnkpgbdaaDoorW.PrintLast.i64_w, Go.Proofs.YtlmkhpgnkpgbdaaDoorW.PrintLast.i32_w]
    rfl
  refine Go.Proofs.YtlmkhpgnkpgbdaaDoorW.PrintLast.pure_ (i := 4) (N := some 12) (v := ?_) (a' := ?_) #[true, true, true, true, true, false, false, false, false, false, false, false, false, false, false, false, false, false] rfl rfl (by kernel_rfl) (fun _ _ _ h => h) (Or.inl ⟨by rfl, ?_⟩) ?_ ?_
  rotate_left
  · intro w'
    go_simp
    with_reducible rfl
  rotate_left
  · simp only [Act.put, List.setIfInBounds_toArray, List.set_cons_zero, List.set_cons_succ, Go.Proofs.YtlmkhpgnkpgbdaaDoorW.PrintLast.i64_w, Go.Proofs.YtlmkhpgnkpgbdaaDoorW.PrintLast.i32_w]
    rfl
  refine Go.Proofs.YtlmkhpgnkpgbdaaDoorW.PrintLast.pure_ (i := 5) (N := some 13) (v := ?_) (a' := ?_) #[true, true, true, true, true, true, false, false, false, false, false, false, false, false, false, false, false, false] rfl rfl (by kernel_rfl) (fun _ _ _ h => h) (Or.inl ⟨by rfl, ?_⟩) ?_ ?_
  rotate_left
  · intro w'
    go_simp
    with_reducible rfl
  rotate_left
  · simp only [Act.put, List.setIfInBounds_toArray, List.set_cons_zero, List.set_cons_succ, Go.Proofs.YtlmkhpgnkpgbdaaDoorW.PrintLast.i64_w, Go.Proofs.YtlmkhpgnkpgbdaaDoorW.PrintLast.i32_w]
    rfl
  refine Go.Proofs.YtlmkhpgnkpgbdaaDoorW.PrintLast.take_ (i := 6) (N := some 14) (v := ?_) (a' := ?_) #[true, true, true, true, true, true, true, false, false, false, false, false, false, false, false, false, false, false] rfl rfl (by kernel_rfl) (fun _ _ _ h => h) (Or.inl ⟨by rfl, ?_⟩) hHeld ?_ ?_
  rotate_left
  · rintro w' ⟨s0, s1⟩
    go_simp
    with_reducible rfl
  rotate_left
  · simp only [Act.put, List.setIfInBounds_toArray, List.set_cons_zero, List.set_cons_succ, Go.Proofs.YtlmkhpgnkpgbdaaDoorW.PrintLast.i64_w, Go.Proofs.YtlmkhpgnkpgbdaaDoorW.PrintLast.i32_w]
    rfl
  refine Go.Proofs.YtlmkhpgnkpgbdaaDoorW.PrintLast.pure_ (i := 7) (N := some 15) (v := ?_) (a' := ?_) #[true, true, true, true, true, true, true, true, false, false, false, false, false, false, false, false, false, false] rfl rfl (by kernel_rfl) (fun _ _ _ h => h) (Or.inl ⟨by rfl, ?_⟩) ?_ ?_
  rotate_left
  · intro w'
    go_simp
    with_reducible rfl
  rotate_left
  · simp only [Act.put, List.setIfInBounds_toArray, List.set_cons_zero, List.set_cons_succ, Go.Proofs.YtlmkhpgnkpgbdaaDoorW.PrintLast.i64_w, Go.Proofs.YtlmkhpgnkpgbdaaDoorW.PrintLast.i32_w]
    rfl
  refine Go.Proofs.YtlmkhpgnkpgbdaaDoorW.PrintLast.pure_ (i := 8) (N := some 16) (v := ?_) (a' := ?_) #[true, true, true, true, true, true, true, true, true, false, false, false, false, false, false, false, false, false] rfl rfl (by kernel_rfl) (fun _ _ _ h => h) (Or.inl ⟨by rfl, ?_⟩) ?_ ?_
  rotate_left
  · intro w'
    go_simp
    with_reducible rfl
  rotate_left
  · simp only [Act.put, List.setIfInBounds_toArray, List.set_cons_zero, List.set_cons_succ, Go.Proofs.YtlmkhpgnkpgbdaaDoorW.PrintLast.i64_w, Go.Proofs.YtlmkhpgnkpgbdaaDoorW.PrintLast.i32_w]
    rfl
  refine Go.Proofs.YtlmkhpgnkpgbdaaDoorW.PrintLast.pure_ (i := 9) (N := some 17) (v := ?_) (a' := ?_) #[true, true, true, true, true, true, true, true, true, true, false, false, false, false, false, false, false, false] rfl rfl (by kernel_rfl) (fun _ _ _ h => h) (Or.inl ⟨by rfl, ?_⟩) ?_ ?_
  rotate_left
  · intro w'
    go_simp
    with_reducible rfl
  rotate_left
  · simp only [Act.put, List.setIfInBounds_toArray, List.set_cons_zero, List.set_cons_succ, Go.Proofs.YtlmkhpgnkpgbdaaDoorW.PrintLast.i64_w, Go.Proofs.YtlmkhpgnkpgbdaaDoorW.PrintLast.i32_w]
    rfl
  refine Go.Proofs.YtlmkhpgnkpgbdaaDoorW.PrintLast.take_ (i := 10) (N := some 18) (v := ?_) (a' := ?_) #[true, true, true, true, true, true, true, true, true, true, true, false, false, false, false, false, false, false] rfl rfl (by kernel_rfl) (fun _ _ _ h => h) (Or.inl ⟨by rfl, ?_⟩) hHeld ?_ ?_
  rotate_left
  · rintro w' ⟨s0, s1⟩
    go_simp
    with_reducible rfl
  rotate_left
  · simp only [Act.put, List.setIfInBounds_toArray, List.set_cons_zero, List.set_cons_succ, Go.Proofs.YtlmkhpgnkpgbdaaDoorW.PrintLast.i64_w, Go.Proofs.YtlmkhpgnkpgbdaaDoorW.PrintLast.i32_w]
    rfl
  refine Go.Proofs.YtlmkhpgnkpgbdaaDoorW.PrintLast.pure_ (i := 11) (N := some 19) (v := ?_) (a' := ?_) #[true, true, true, true, true, true, true, true, true, true, true, true, false, false, false, false, false, false] rfl rfl (by kernel_rfl) (fun _ _ _ h => h) (Or.inl ⟨by rfl, ?_⟩) ?_ ?_
  rotate_left
  · intro w'
    go_simp
    with_reducible rfl
  rotate_left
  · simp only [Act.put, List.setIfInBounds_toArray, List.set_cons_zero, List.set_cons_succ, Go.Proofs.YtlmkhpgnkpgbdaaDoorW.PrintLast.i64_w, Go.Proofs.YtlmkhpgnkpgbdaaDoorW.PrintLast.i32_w]
    rfl
  refine Go.Proofs.YtlmkhpgnkpgbdaaDoorW.PrintLast.pure_ (i := 12) (N := some 20) (v := ?_) (a' := ?_) #[true, true, true, true, true, true, true, true, true, true, true, true, true, false, false, false, false, false] rfl rfl (by kernel_rfl) (fun _ _ _ h => h) (Or.inl ⟨by rfl, ?_⟩) ?_ ?_
  rotate_left
  · intro w'
    go_simp
    with_reducible rfl
  rotate_left
  · simp only [Act.put, List.setIfInBounds_toArray, List.set_cons_zero, List.set_cons_succ, Go.Proofs.YtlmkhpgnkpgbdaaDoorW.PrintLast.i64_w, Go.Proofs.YtlmkhpgnkpgbdaaDoorW.PrintLast.i32_w]
    rfl
  refine Go.Proofs.YtlmkhpgnkpgbdaaDoorW.PrintLast.one_ (i := 13) (N := some 21) #[true, true, true, true, true, true, true, true, true, true, true, true, true, true, false, false, false, false] rfl rfl (by kernel_rfl) (by decide) (fun K hK => ?_)
  refine Go.Proofs.YtlmkhpgnkpgbdaaDoorW.PrintLast.goes_ Tryd.func59 (by kernel_rfl) rfl #[.int .i64 (wrap64 (a.tdiv b)), .bool true] (by rfl) rfl rfl (by (try simp only [List.map_toArray, List.map_cons, List.map_nil]); first | done | rfl) ?_
  refine (number_t _ _).mono ?_
  rintro e w1 ⟨rfl, hb⟩
  refine ⟨_, rfl, ?_⟩
  obtain ⟨a1, b1⟩ := hb.at_ p (by simp <;> omega)
  obtain ⟨a2, b2⟩ := hb.at_ q (by simp <;> omega)
  obtain ⟨c1, d1⟩ := hb.at_ w.heap.size (by simp)
  have z1 : w.heap.size < w1.heap.size := by have hz := hb.size; simp at hz; omega
  have G1 := Lib.hid (Nw.to (((Nw.refl w).alloc _).drew) hb)
  clear hb
  refine hK.out _ _ ⟨(a1 1).trans hHeld.1, (a2 1).trans hHeld.2⟩ (fun hHeld => ?_)
  clear hK K
  refine Go.Proofs.YtlmkhpgnkpgbdaaDoorW.PrintLast.norm_ (a' := ?_) ?_ ?_
  rotate_left
  · show Act.put _ (some 21) _ = _
    simp only [Act.put, List.setIfInBounds_toArray, List.set_cons_zero, List.set_cons_succ, Go.Proofs.YtlmkhpgnkpgbdaaDoorW.PrintLast.i64_w, Go.Proofs.YtlmkhpgnkpgbdaaDoorW.PrintLast.i32_w]
    rfl
  refine Go.Proofs.YtlmkhpgnkpgbdaaDoorW.PrintLast.pure_ (i := 14) (N := some 22) (v := ?_) (a' := ?_) #[true, true, true, true, true, true, true, true, true, true, true, true, true, true, true, false, false, false] rfl rfl (by kernel_rfl) (fun _ _ _ h => h) (Or.inl ⟨by rfl, ?_⟩) ?_ ?_
  rotate_left
  · intro w'
    go_simp
    with_reducible rfl
  rotate_left
  · simp only [Act.put, List.setIfInBounds_toArray, List.set_cons_zero, List.set_cons_succ, Go.Proofs.YtlmkhpgnkpgbdaaDoorW.PrintLast.i64_w, Go.Proofs.YtlmkhpgnkpgbdaaDoorW.PrintLast.i32_w]
    rfl
  refine Go.Proofs.YtlmkhpgnkpgbdaaDoorW.PrintLast.pure_ (i := 15) (N := some 23) (v := ?_) (a' := ?_) #[true, true, true, true, true, true, true, true, true, true, true, true, true, true, true, true, false, false] rfl rfl (by kernel_rfl) (fun _ _ _ h => h) (Or.inl ⟨by rfl, ?_⟩) ?_ ?_
  rotate_left
  · intro w'
    go_simp
    with_reducible rfl
  rotate_left
  · simp only [Act.put, List.setIfInBounds_toArray, List.set_cons_zero, List.set_cons_succ, Go.Proofs.YtlmkhpgnkpgbdaaDoorW.PrintLast.i64_w, Go.Proofs.YtlmkhpgnkpgbdaaDoorW.PrintLast.i32_w]
    rfl
  refine Go.Proofs.YtlmkhpgnkpgbdaaDoorW.PrintLast.one_ (i := 16) (N := none) #[true, true, true, true, true, true, true, true, true, true, true, true, true, true, true, true, true, false] rfl rfl (by kernel_rfl) (by decide) (fun K hK => ?_)
  refine Go.Proofs.YtlmkhpgnkpgbdaaDoorW.PrintLast.skip_ (w1 := ?_) (by rfl) rfl ?_ ?_
  rotate_left
  · go_simp
    rfl
  obtain ⟨t0, t1⟩ := hHeld
  refine hK.out _ _ ⟨by go_simp, by go_simp⟩ (fun hHeld => ?_)
  clear hHeld
  clear hK K
  refine Go.Proofs.YtlmkhpgnkpgbdaaDoorW.PrintLast.pure_ (i := 17) (N := some 3) (v := ?_) (a' := ?_) #[true, true, true, true, true, true, true, true, true, true, true, true, true, true, true, true, true, true] rfl rfl (by kernel_rfl) (fun _ _ _ h => h) (Or.inl ⟨by rfl, ?_⟩) ?_ ?_
  rotate_left
  · intro w'
    go_simp
    with_reducible rfl
  rotate_left
  · simp only [Act.put, List.setIfInBounds_toArray, List.set_cons_zero, List.set_cons_succ, Go.Proofs.YtlmkhpgnkpgbdaaDoorW.PrintLast.i64_w, Go.Proofs.YtlmkhpgnkpgbdaaDoorW.PrintLast.i32_w]
    rfl
  refine Go.Proofs.YtlmkhpgnkpgbdaaDoorW.PrintLast.done_ (by kernel_rfl) ?_
  go_wp2_with fail
  exact bodyPost_ret (v := .tuple #[.agg #[.int .i64 1, .int .i64 (wrap64 (a.tdiv b)), .string E, .bool false], .string sDone]) (by simp [results, Tryd.results61, go_sem, c1]) rfl ⟨rfl, (by repeat (first | exact Nw.refl _ | exact G1.out | apply Nw.alloc | apply Nw.drew | refine Nw.setCell ?_ (by simp <;> omega) _))⟩
set_option maxHeartbeats 1000000 in
set_option maxRecDepth 100000 in
theorem div_3 (p q : Nat) (a b : Int) (w : World) (k1 : w.cell? ⟨p, 1, none⟩ = some (.int .i64 b)) (k2 : w.cell? ⟨q, 1, none⟩ = some (.int .i64 a)) (h0 : (b == 0) = false) (h00 : ¬ b = 0) (h1 : (a != -9223372036854775808) = false) (h2 : (b != -1) = false) : Calls Tryd.prog 61 #[.pointer (some ⟨p, 0, none⟩), .pointer (some ⟨q, 0, none⟩)] w fun e w' => e = .returned (.tuple #[.agg #[.int .i64 0, .int .i64 0, .string E, .bool false], .string sRange]) ∧ Nw w w' := by
  have lp := World.block_lt_of_cell? w _ k1
  have lq := World.block_lt_of_cell? w _ k2
  simp only at lp lq
  have np : ¬ p = w.heap.size := by omega
  have nq : ¬ q = w.heap.size := by omega
  have np' : ¬ w.heap.size = p := by omega
  have nq' : ¬ w.heap.size = q := by omega
  go_enter Tryd.func61, Tryd.ntmps61
  go_wp2_with fail
  refine Go.Proofs.YtlmkhpgnkpgbdaaDoorW.PrintLast.start_ (n := 18) (S := fun v => v.cell? ⟨p, 1, none⟩ = some (.int .i64 b) ∧ v.cell? ⟨q, 1, none⟩ = some (.int .i64 a)) (ds := []) #[false, false, false, false, false, false, false, false, false, false, false, false, false, false, false, false, false, false] (by kernel_rfl) rfl rfl ⟨by go_simp, by go_simp⟩ (fun hHeld => ?_)
  refine Go.Proofs.YtlmkhpgnkpgbdaaDoorW.PrintLast.pure_ (i := 0) (N := some 8) (v := ?_) (a' := ?_) #[true, false, false, false, false, false, false, false, false, false, false, false, false, false, false, false, false, false] rfl rfl (by kernel_rfl) (fun _ _ _ h => h) (Or.inl ⟨by rfl, ?_⟩) ?_ ?_
  rotate_left
  · intro w'
    go_simp
    with_reducible rfl
  rotate_left
  · simp only [Act.put, List.setIfInBounds_toArray, List.set_cons_zero, List.set_cons_succ, Go.Proofs.YtlmkhpgnkpgbdaaDoorW.PrintLast.i64_w, Go.Proofs.YtlmkhpgnkpgbdaaDoorW.PrintLast.i32_w]
    rfl
  refine Go.Proofs.YtlmkhpgnkpgbdaaDoorW.PrintLast.take_ (i := 1) (N := some 9) (v := ?_) (a' := ?_) #[true, true, false, false, false, false, false, false, false, false, false, false, false, false, false, false, false, false] rfl rfl (by kernel_rfl) (fun _ _ _ h => h) (Or.inl ⟨by rfl, ?_⟩) hHeld ?_ ?_
  rotate_left
  · rintro w' ⟨s0, s1⟩
    go_simp
    with_reducible rfl
  rotate_left
  · simp only [Act.put, List.setIfInBounds_toArray, List.set_cons_zero, List.set_cons_succ, Go.Proofs.YtlmkhpgnkpgbdaaDoorW.PrintLast.i64_w, Go.Proofs.YtlmkhpgnkpgbdaaDoorW.PrintLast.i32_w]
    rfl
  refine Go.Proofs.YtlmkhpgnkpgbdaaDoorW.PrintLast.pure_ (i := 2) (N := some 10) (v := ?_) (a' := ?_) #[true, true, true, false, false, false, false, false, false, false, false, false, false, false, false, false, false, false] rfl rfl (by kernel_rfl) (fun _ _ _ h => h) (Or.inl ⟨by rfl, ?_⟩) ?_ ?_
  rotate_left
  · intro w'
    go_simp
    with_reducible rfl
  rotate_left
  · simp only [Act.put, List.setIfInBounds_toArray, List.set_cons_zero, List.set_cons_succ, Go.Proofs.YtlmkhpgnkpgbdaaDoorW.PrintLast.i64_w, Go.Proofs.YtlmkhpgnkpgbdaaDoorW.PrintLast.i32_w]
    rfl
  refine Go.Proofs.YtlmkhpgnkpgbdaaDoorW.PrintLast.take_ (i := 3) (N := some 11) (v := ?_) (a' := ?_) #[true, true, true, true, false, false, false, false, false, false, false, false, false, false, false, false, false, false] rfl rfl (by kernel_rfl) (fun _ _ _ h => h) (Or.inl ⟨by rfl, ?_⟩) hHeld ?_ ?_
  rotate_left
  · rintro w' ⟨s0, s1⟩
    go_simp
    with_reducible rfl
  rotate_left
  · simp only [Act.put, List.setIfInBounds_toArray, List.set_cons_zero, List.set_cons_succ, Go.Proofs.YtlmkhpgnkpgbdaaDoorW.PrintLast.i64_w, Go.Proofs.YtlmkhpgnkpgbdaaDoorW.PrintLast.i32_w]
    rfl
  refine Go.Proofs.YtlmkhpgnkpgbdaaDoorW.PrintLast.pure_ (i := 4) (N := some 12) (v := ?_) (a' := ?_) #[true, true, true, true, true, false, false, false, false, false, false, false, false, false, false, false, false, false] rfl rfl (by kernel_rfl) (fun _ _ _ h => h) (Or.inl ⟨by rfl, ?_⟩) ?_ ?_
  rotate_left
  · intro w'
    go_simp
    with_reducible rfl
  rotate_left
  · simp only [Act.put, List.setIfInBounds_toArray, List.set_cons_zero, List.set_cons_succ, Go.Proofs.YtlmkhpgnkpgbdaaDoorW.PrintLast.i64_w, Go.Proofs.YtlmkhpgnkpgbdaaDoorW.PrintLast.i32_w]
    rfl
  refine Go.Proofs.YtlmkhpgnkpgbdaaDoorW.PrintLast.pure_ (i := 5) (N := some 13) (v := ?_) (a' := ?_) #[true, true, true, true, true, true, false, false, false, false, false, false, false, false, false, false, false, false] rfl rfl (by kernel_rfl) (fun _ _ _ h => h) (Or.inl ⟨by rfl, ?_⟩) ?_ ?_
  rotate_left
  · intro w'
    go_simp
    with_reducible rfl
  rotate_left
  · simp only [Act.put, List.setIfInBounds_toArray, List.set_cons_zero, List.set_cons_succ, Go.Proofs.YtlmkhpgnkpgbdaaDoorW.PrintLast.i64_w, Go.Proofs.YtlmkhpgnkpgbdaaDoorW.PrintLast.i32_w]
    rfl
  refine Go.Proofs.YtlmkhpgnkpgbdaaDoorW.PrintLast.take_ (i := 6) (N := some 14) (v := ?_) (a' := ?_) #[true, true, true, true, true, true, true, false, false, false, false, false, false, false, false, false, false, false] rfl rfl (by kernel_rfl) (fun _ _ _ h => h) (Or.inl ⟨by rfl, ?_⟩) hHeld ?_ ?_
  rotate_left
  · rintro w' ⟨s0, s1⟩
    go_simp
    with_reducible rfl
  rotate_left
  · simp only [Act.put, List.setIfInBounds_toArray, List.set_cons_zero, List.set_cons_succ, Go.Proofs.YtlmkhpgnkpgbdaaDoorW.PrintLast.i64_w, Go.Proofs.YtlmkhpgnkpgbdaaDoorW.PrintLast.i32_w]
    rfl
  refine Go.Proofs.YtlmkhpgnkpgbdaaDoorW.PrintLast.pure_ (i := 7) (N := some 15) (v := ?_) (a' := ?_) #[true, true, true, true, true, true, true, true, false, false, false, false, false, false, false, false, false, false] rfl rfl (by kernel_rfl) (fun _ _ _ h => h) (Or.inl ⟨by rfl, ?_⟩) ?_ ?_
  rotate_left
  · intro w'
    go_simp
    with_reducible rfl
  rotate_left
  · simp only [Act.put, List.setIfInBounds_toArray, List.set_cons_zero, List.set_cons_succ, Go.Proofs.YtlmkhpgnkpgbdaaDoorW.PrintLast.i64_w, Go.Proofs.YtlmkhpgnkpgbdaaDoorW.PrintLast.i32_w]
    rfl
  refine Go.Proofs.YtlmkhpgnkpgbdaaDoorW.PrintLast.pure_ (i := 8) (N := some 16) (v := ?_) (a' := ?_) #[true, true, true, true, true, true, true, true, true, false, false, false, false, false, false, false, false, false] rfl rfl (by kernel_rfl) (fun _ _ _ h => h) (Or.inl ⟨by rfl, ?_⟩) ?_ ?_
  rotate_left
  · intro w'
    go_simp
    with_reducible rfl
  rotate_left
  · simp only [Act.put, List.setIfInBounds_toArray, List.set_cons_zero, List.set_cons_succ, Go.Proofs.YtlmkhpgnkpgbdaaDoorW.PrintLast.i64_w, Go.Proofs.YtlmkhpgnkpgbdaaDoorW.PrintLast.i32_w]
    rfl
  refine Go.Proofs.YtlmkhpgnkpgbdaaDoorW.PrintLast.pure_ (i := 9) (N := some 17) (v := ?_) (a' := ?_) #[true, true, true, true, true, true, true, true, true, true, false, false, false, false, false, false, false, false] rfl rfl (by kernel_rfl) (fun _ _ _ h => h) (Or.inl ⟨by rfl, ?_⟩) ?_ ?_
  rotate_left
  · intro w'
    go_simp
    with_reducible rfl
  rotate_left
  · simp only [Act.put, List.setIfInBounds_toArray, List.set_cons_zero, List.set_cons_succ, Go.Proofs.YtlmkhpgnkpgbdaaDoorW.PrintLast.i64_w, Go.Proofs.YtlmkhpgnkpgbdaaDoorW.PrintLast.i32_w]
    rfl
  refine Go.Proofs.YtlmkhpgnkpgbdaaDoorW.PrintLast.take_ (i := 10) (N := some 18) (v := ?_) (a' := ?_) #[true, true, true, true, true, true, true, true, true, true, true, false, false, false, false, false, false, false] rfl rfl (by kernel_rfl) (fun _ _ _ h => h) (Or.inl ⟨by rfl, ?_⟩) hHeld ?_ ?_
  rotate_left
  · rintro w' ⟨s0, s1⟩
    go_simp
    with_reducible rfl
  rotate_left
  · simp only [Act.put, List.setIfInBounds_toArray, List.set_cons_zero, List.set_cons_succ, Go.Proofs.YtlmkhpgnkpgbdaaDoorW.PrintLast.i64_w, Go.Proofs.YtlmkhpgnkpgbdaaDoorW.PrintLast.i32_w]
    rfl
  refine Go.Proofs.YtlmkhpgnkpgbdaaDoorW.PrintLast.pure_ (i := 11) (N := some 19) (v := ?_) (a' := ?_) #[true, true, true, true, true, true, true, true, true, true, true, true, false, false, false, false, false, false] rfl rfl (by kernel_rfl) (fun _ _ _ h => h) (Or.inl ⟨by rfl, ?_⟩) ?_ ?_
  rotate_left
  · intro w'
    go_simp
    with_reducible rfl
  rotate_left
  · simp only [Act.put, List.setIfInBounds_toArray, List.set_cons_zero, List.set_cons_succ, Go.Proofs.YtlmkhpgnkpgbdaaDoorW.PrintLast.i64_w, Go.Proofs.YtlmkhpgnkpgbdaaDoorW.PrintLast.i32_w]
    rfl
  refine Go.Proofs.YtlmkhpgnkpgbdaaDoorW.PrintLast.pure_ (i := 12) (N := some 20) (v := ?_) (a' := ?_) #[true, true, true, true, true, true, true, true, true, true, true, true, true, false, false, false, false, false] rfl rfl (by kernel_rfl) (fun _ _ _ h => h) (Or.inl ⟨by rfl, ?_⟩) ?_ ?_
  rotate_left
  · intro w'
    go_simp
    with_reducible rfl
  rotate_left
  · simp only [Act.put, List.setIfInBounds_toArray, List.set_cons_zero, List.set_cons_succ, Go.Proofs.YtlmkhpgnkpgbdaaDoorW.PrintLast.i64_w, Go.Proofs.YtlmkhpgnkpgbdaaDoorW.PrintLast.i32_w]
    rfl
  refine Go.Proofs.YtlmkhpgnkpgbdaaDoorW.PrintLast.one_ (i := 13) (N := some 21) #[true, true, true, true, true, true, true, true, true, true, true, true, true, true, false, false, false, false] rfl rfl (by kernel_rfl) (by decide) (fun K hK => ?_)
  refine Go.Proofs.YtlmkhpgnkpgbdaaDoorW.PrintLast.goes_ Tryd.func59 (by kernel_rfl) rfl #[.int .i64 (wrap64 (a.tdiv b)), .bool false] (by rfl) rfl rfl (by (try simp only [List.map_toArray, List.map_cons, List.map_nil]); first | done | rfl) ?_
  refine (number_f _ _).mono ?_
  rintro e w1 ⟨rfl, hb⟩
  refine ⟨_, rfl, ?_⟩
  obtain ⟨a1, b1⟩ := hb.at_ p (by simp <;> omega)
  obtain ⟨a2, b2⟩ := hb.at_ q (by simp <;> omega)
  obtain ⟨c1, d1⟩ := hb.at_ w.heap.size (by simp)
  have z1 : w.heap.size < w1.heap.size := by have hz := hb.size; simp at hz; omega
  have G1 := Lib.hid (Nw.to (((Nw.refl w).alloc _).drew) hb)
  clear hb
  refine hK.out _ _ ⟨(a1 1).trans hHeld.1, (a2 1).trans hHeld.2⟩ (fun hHeld => ?_)
  clear hK K
  refine Go.Proofs.YtlmkhpgnkpgbdaaDoorW.PrintLast.norm_ (a' := ?_) ?_ ?_
  rotate_left
  · show Act.put _ (some 21) _ = _
    simp only [Act.put, List.setIfInBounds_toArray, List.set_cons_zero, List.set_cons_succ, Go.Proofs.YtlmkhpgnkpgbdaaDoorW.PrintLast.i64_w, Go.Proofs.YtlmkhpgnkpgbdaaDoorW.PrintLast.i32_w]
    rfl
  refine Go.Proofs.YtlmkhpgnkpgbdaaDoorW.PrintLast.pure_ (i := 14) (N := some 22) (v := ?_) (a' := ?_) #[true, true, true, true, true, true, true, true, true, true, true, true, true, true, true, false, false, false] rfl rfl (by kernel_rfl) (fun _ _ _ h => h) (Or.inl ⟨by rfl, ?_⟩) ?_ ?_
  rotate_left
  · intro w'
    go_simp
    with_reducible rfl
  rotate_left
  · simp only [Act.put, List.setIfInBounds_toArray, List.set_cons_zero, List.set_cons_succ, Go.Proofs.YtlmkhpgnkpgbdaaDoorW.PrintLast.i64_w, Go.Proofs.YtlmkhpgnkpgbdaaDoorW.PrintLast.i32_w]
    rfl
  refine Go.Proofs.YtlmkhpgnkpgbdaaDoorW.PrintLast.pure_ (i := 15) (N := some 23) (v := ?_) (a' := ?_) #[true, true, true, true, true, true, true, true, true, true, true, true, true, true, true, true, false, false] rfl rfl (by kernel_rfl) (fun _ _ _ h => h) (Or.inl ⟨by rfl, ?_⟩) ?_ ?_
  rotate_left
  · intro w'
    go_simp
    with_reducible rfl
  rotate_left
  · simp only [Act.put, List.setIfInBounds_toArray, List.set_cons_zero, List.set_cons_succ, Go.Proofs.YtlmkhpgnkpgbdaaDoorW.PrintLast.i64_w, Go.Proofs.YtlmkhpgnkpgbdaaDoorW.PrintLast.i32_w]
    rfl
  refine Go.Proofs.YtlmkhpgnkpgbdaaDoorW.PrintLast.one_ (i := 16) (N := none) #[true, true, true, true, true, true, true, true, true, true, true, true, true, true, true, true, true, false] rfl rfl (by kernel_rfl) (by decide) (fun K hK => ?_)
  refine Go.Proofs.YtlmkhpgnkpgbdaaDoorW.PrintLast.skip_ (w1 := ?_) (by rfl) rfl ?_ ?_
  rotate_left
  · go_simp
    rfl
  obtain ⟨t0, t1⟩ := hHeld
  refine hK.out _ _ ⟨by go_simp, by go_simp⟩ (fun hHeld => ?_)
  clear hHeld
  clear hK K
  refine Go.Proofs.YtlmkhpgnkpgbdaaDoorW.PrintLast.pure_ (i := 17) (N := some 3) (v := ?_) (a' := ?_) #[true, true, true, true, true, true, true, true, true, true, true, true, true, true, true, true, true, true] rfl rfl (by kernel_rfl) (fun _ _ _ h => h) (Or.inl ⟨by rfl, ?_⟩) ?_ ?_
  rotate_left
  · intro w'
    go_simp
    with_reducible rfl
  rotate_left
  · simp only [Act.put, List.setIfInBounds_toArray, List.set_cons_zero, List.set_cons_succ, Go.Proofs.YtlmkhpgnkpgbdaaDoorW.PrintLast.i64_w, Go.Proofs.YtlmkhpgnkpgbdaaDoorW.PrintLast.i32_w]
    rfl
  refine Go.Proofs.YtlmkhpgnkpgbdaaDoorW.PrintLast.done_ (by kernel_rfl) ?_
  go_wp2_with fail
  exact bodyPost_ret (v := .tuple #[.agg #[.int .i64 0, .int .i64 0, .string E, .bool false], .string sRange]) (by simp [results, Tryd.results61, go_sem, c1]) rfl ⟨rfl, (by repeat (first | exact Nw.refl _ | exact G1.out | apply Nw.alloc | apply Nw.drew | refine Nw.setCell ?_ (by simp <;> omega) _))⟩
end Vl
end Go.Proofs.YtlmkhpgnkpgbdaaDoor

namespace Go.Proofs
open Go.Shelf
def Tryd.lays119_ren : Go.Shelf.Ren := ⟨fun | 119 => 92 | n => n, fun | 21 => 21 | 4 => 4 | n => n, fun | n => n⟩
theorem Tryd.lays119 : Go.Proofs.Lays.n119 Tryd.prog Tryd.lays119_ren := {
  mixed := by kernel_rfl
  f119 := Tryd.func92.trans (congrArg some (by kernel_rfl))
  t4 := Tryd.underlying4
  a4 := Tryd.isAgg4
  z4 := Tryd.sizeOf4
  v4 := Tryd.zeroValue4
  t21 := Tryd.underlying21
  a21 := Tryd.isAgg21
  z21 := Tryd.sizeOf21
  v21 := Tryd.zeroValue21 }
/-- utf8.ValidRune: "ValidRune reports whether r can be legally encoded as UTF-8. Code points that are out of range or a surrogate half are illegal.": IT RETURNS 'Lib.validRune r'; the world is as it was. (LAID: no walk: one application.) -/
theorem Tryd.utf8_ValidRune (r : Int) (w : World) :
    Calls Tryd.prog 92 #[.int .i32 r] w fun e w' => e = .returned (.bool (Lib.validRune r)) ∧ w' = w := Any.utf8_ValidRune Tryd.lays119 r w
def Tryd.lays120_ren : Go.Shelf.Ren := ⟨fun | 120 => 90 | n => n, fun | 5 => 5 | 4 => 4 | n => n, fun | n => n⟩
theorem Tryd.lays120 : Go.Proofs.Lays.n120 Tryd.prog Tryd.lays120_ren := {
  mixed := by kernel_rfl
  f120 := Tryd.func90.trans (congrArg some (by kernel_rfl))
  t4 := Tryd.underlying4
  a4 := Tryd.isAgg4
  z4 := Tryd.sizeOf4
  v4 := Tryd.zeroValue4
  t5 := Tryd.underlying5
  a5 := Tryd.isAgg5
  z5 := Tryd.sizeOf5
  v5 := Tryd.zeroValue5 }
/-- utf8.RuneStart: "RuneStart reports whether the byte could be the first byte of an encoded, possibly invalid rune. Second and subsequent bytes always have the top two bits set to 10.": IT RETURNS 'Lib.runeStart b'; the world is as it was. ('h0', 'h1': b is a byte: a caller has it of every byte that it was handed.) (LAID: no walk: one application.) -/
theorem Tryd.utf8_RuneStart (b : Int) (w : World) (h0 : 0 ≤ b) (h1 : b < 256) :
    Calls Tryd.prog 90 #[.int .u8 b] w fun e w' => e = .returned (.bool (Lib.runeStart b)) ∧ w' = w := Any.utf8_RuneStart Tryd.lays120 b w h0 h1
def Tryd.lays213_ren : Go.Shelf.Ren := ⟨fun | 213 => 81 | 265 => 87 | n => n, fun | 9 => 9 | 3 => 3 | n => n, fun | n => n⟩
theorem Tryd.lays213 : Go.Proofs.Lays.n213 Tryd.prog Tryd.lays213_ren := {
  mixed := by kernel_rfl
  f213 := Tryd.func81.trans (congrArg some (by kernel_rfl))
  f265 := Tryd.func87.trans (congrArg some (by kernel_rfl))
  t3 := Tryd.underlying3
  a3 := Tryd.isAgg3
  z3 := Tryd.sizeOf3
  v3 := Tryd.zeroValue3
  t9 := Tryd.underlying9
  a9 := Tryd.isAgg9
  z9 := Tryd.sizeOf9
  v9 := Tryd.zeroValue9 }
open Go.RowKit in
/-- internal/bytealg.CompareString (what strings.Compare calls): IT RETURNS 'Lib.compareBytes a b'; the world is as it was. (LAID: no walk: one application.) -/
theorem Tryd.bytealg_CompareString (a b : ByteArray) (w : World) :
    Calls Tryd.prog 81 #[.string a, .string b] w fun e w' => e = .returned (.int .i64 (Lib.compareBytes a.data.toList b.data.toList)) ∧ w' = w := Any.bytealg_CompareString Tryd.lays213 a b w
def Tryd.lays106_ren : Go.Shelf.Ren := ⟨fun | 106 => 50 | 213 => 81 | 265 => 87 | n => n, fun | 9 => 9 | 3 => 3 | n => n, fun | n => n⟩
theorem Tryd.lays106 : Go.Proofs.Lays.n106 Tryd.prog Tryd.lays106_ren := {
  mixed := by kernel_rfl
  f106 := Tryd.func50.trans (congrArg some (by kernel_rfl))
  f213 := Tryd.func81.trans (congrArg some (by kernel_rfl))
  f265 := Tryd.func87.trans (congrArg some (by kernel_rfl))
  t3 := Tryd.underlying3
  a3 := Tryd.isAgg3
  z3 := Tryd.sizeOf3
  v3 := Tryd.zeroValue3
  t9 := Tryd.underlying9
  a9 := Tryd.isAgg9
  z9 := Tryd.sizeOf9
  v9 := Tryd.zeroValue9 }
open Go.RowKit in
/-- strings.Compare: "Compare returns an integer comparing two strings lexicographically. The result will be 0 if a == b, -1 if a < b, and +1 if a > b.": IT RETURNS 'Lib.compareBytes a b'; the world is as it was. (LAID: no walk: one application.) -/
theorem Tryd.strings_Compare (a b : ByteArray) (w : World) :
    Calls Tryd.prog 50 #[.string a, .string b] w fun e w' => e = .returned (.int .i64 (Lib.compareBytes a.data.toList b.data.toList)) ∧ w' = w := Any.strings_Compare Tryd.lays106 a b w
def Tryd.lays137_ren : Go.Shelf.Ren := ⟨fun | 137 => 91 | 217 => 95 | 266 => 96 | n => n, fun | 9 => 9 | 5 => 5 | 3 => 3 | n => n, fun | n => n⟩
theorem Tryd.lays137 : Go.Proofs.Lays.n137 Tryd.prog Tryd.lays137_ren := {
  mixed := by kernel_rfl
  f137 := Tryd.func91.trans (congrArg some (by kernel_rfl))
  f217 := Tryd.func95.trans (congrArg some (by kernel_rfl))
  f266 := Tryd.func96.trans (congrArg some (by kernel_rfl))
  t3 := Tryd.underlying3
  a3 := Tryd.isAgg3
  z3 := Tryd.sizeOf3
  v3 := Tryd.zeroValue3
  t5 := Tryd.underlying5
  a5 := Tryd.isAgg5
  z5 := Tryd.sizeOf5
  v5 := Tryd.zeroValue5
  t9 := Tryd.underlying9
  a9 := Tryd.isAgg9
  z9 := Tryd.sizeOf9
  v9 := Tryd.zeroValue9 }
open Go.RowKit in
/-- strings.IndexByte: "IndexByte returns the index of the first instance of c in s, or -1 if c is not present in s.": IT RETURNS 'Lib.indexByte s c'; the world is as it was. (LAID: no walk: one application.) -/
theorem Tryd.strings_IndexByte (s : ByteArray) (c : Int) (w : World) :
    Calls Tryd.prog 91 #[.string s, .int .u8 c] w fun e w' => e = .returned (.int .i64 (Lib.indexByte s.data.toList c.toNat.toUInt8)) ∧ w' = w := Any.strings_IndexByte Tryd.lays137 s c w
def Tryd.lays217_ren : Go.Shelf.Ren := ⟨fun | 217 => 95 | 266 => 96 | n => n, fun | 9 => 9 | 5 => 5 | 3 => 3 | n => n, fun | n => n⟩
theorem Tryd.lays217 : Go.Proofs.Lays.n217 Tryd.prog Tryd.lays217_ren := {
  mixed := by kernel_rfl
  f217 := Tryd.func95.trans (congrArg some (by kernel_rfl))
  f266 := Tryd.func96.trans (congrArg some (by kernel_rfl))
  t3 := Tryd.underlying3
  a3 := Tryd.isAgg3
  z3 := Tryd.sizeOf3
  v3 := Tryd.zeroValue3
  t5 := Tryd.underlying5
  a5 := Tryd.isAgg5
  z5 := Tryd.sizeOf5
  v5 := Tryd.zeroValue5
  t9 := Tryd.underlying9
  a9 := Tryd.isAgg9
  z9 := Tryd.sizeOf9
  v9 := Tryd.zeroValue9 }
open Go.RowKit Go.Lib in
/-- internal/stringslite.IndexByte (what strings.IndexByte calls): IT RETURNS 'Lib.indexByte s c'; the world is as it was. (LAID: no walk: one application.) -/
theorem Tryd.stringslite_IndexByte (s : ByteArray) (c : Int) (w : World) :
    Calls Tryd.prog 95 #[.string s, .int .u8 c] w fun e w' => e = .returned (.int .i64 (Lib.indexByte s.data.toList c.toNat.toUInt8)) ∧ w' = w := Any.stringslite_IndexByte Tryd.lays217 s c w
def Tryd.lays224_ren : Go.Shelf.Ren := ⟨fun | 224 => 93 | n => n, fun | 3 => 3 | n => n, fun | n => n⟩
theorem Tryd.lays224 : Go.Proofs.Lays.n224 Tryd.prog Tryd.lays224_ren := {
  mixed := by kernel_rfl
  f224 := Tryd.func93.trans (congrArg some (by kernel_rfl))
  t3 := Tryd.underlying3
  a3 := Tryd.isAgg3
  z3 := Tryd.sizeOf3
  v3 := Tryd.zeroValue3 }
open Go.RowKit Go.Lib in
/-- internal/bytealg.Cutover: "Cutover reports the number of failures of IndexByte we should tolerate before switching over to Index. n is the number of bytes processed so far.": on amd64: (n + 16) / 8. (LAID: no walk: one application.) -/
theorem Tryd.bytealg_Cutover (n : Int) (h0 : 0 ≤ n) (h1 : n < 4611686018427387904) (w : World) :
    Calls Tryd.prog 93 #[.int .i64 n] w fun e w' => e = .returned (.int .i64 ((n + 16) / 8)) ∧ w' = w := Any.bytealg_Cutover Tryd.lays224 n h0 h1 w
def Tryd.lays197_ren : Go.Shelf.Ren := ⟨fun | 197 => 84 | 260 => 88 | n => n, fun | 9 => 9 | 21 => 21 | 3 => 3 | 4 => 4 | 5 => 5 | 105 => 87 | 119 => 91 | 0 => 0 | 46 => 85 | 139 => 94 | 138 => 93 | n => n, fun | 3 => 1 | 4 => 2 | n => n⟩
theorem Tryd.lays197 : Go.Proofs.Lays.n197 Tryd.prog Tryd.lays197_ren := {
  mixed := by kernel_rfl
  f197 := Tryd.func84.trans (congrArg some (by kernel_rfl))
  f260 := Tryd.func88.trans (congrArg some (by kernel_rfl))
  t0 := Tryd.underlying0
  a0 := Tryd.isAgg0
  z0 := Tryd.sizeOf0
  v0 := Tryd.zeroValue0
  t3 := Tryd.underlying3
  a3 := Tryd.isAgg3
  z3 := Tryd.sizeOf3
  v3 := Tryd.zeroValue3
  t4 := Tryd.underlying4
  a4 := Tryd.isAgg4
  z4 := Tryd.sizeOf4
  v4 := Tryd.zeroValue4
  t5 := Tryd.underlying5
  a5 := Tryd.isAgg5
  z5 := Tryd.sizeOf5
  v5 := Tryd.zeroValue5
  t9 := Tryd.underlying9
  a9 := Tryd.isAgg9
  z9 := Tryd.sizeOf9
  v9 := Tryd.zeroValue9
  t21 := Tryd.underlying21
  a21 := Tryd.isAgg21
  z21 := Tryd.sizeOf21
  v21 := Tryd.zeroValue21
  t46 := Tryd.underlying85
  a46 := Tryd.isAgg85
  z46 := Tryd.sizeOf85
  v46 := Tryd.zeroValue85
  t105 := Tryd.underlying87
  a105 := Tryd.isAgg87
  z105 := Tryd.sizeOf87
  v105 := Tryd.zeroValue87
  t119 := Tryd.underlying91
  a119 := Tryd.isAgg91
  z119 := Tryd.sizeOf91
  t138 := Tryd.underlying93
  a138 := Tryd.isAgg93
  z138 := Tryd.sizeOf93
  v138 := Tryd.zeroValue93
  t139 := Tryd.underlying94
  a139 := Tryd.isAgg94
  z139 := Tryd.sizeOf94
  v139 := Tryd.zeroValue94
  g3 := by kernel_rfl
  g4 := by kernel_rfl }
open Go.RowKit Go.Lib in
/-- unicode/utf8.DecodeRuneInString: "DecodeRuneInString is like DecodeRune but its input is a string.": ("DecodeRune unpacks the first UTF-8 encoding in p and returns the rune and its width in bytes."): WHERE s BEGINS WITH AN ASCII BYTE x: (x, 1). (LAID: no walk: one application.) -/
theorem Tryd.utf8_DecodeRuneInString_ascii (s : ByteArray) (x : UInt8) (w : World) (h0 : s.data.toList[0]? = some x) (hx : x.toNat < 128) :
    Calls Tryd.prog 84 #[.string s] w fun e w' => e = .returned (.tuple #[.int .i32 x.toNat, .int .i64 1]) ∧ w' = w := Any.utf8_DecodeRuneInString_ascii Tryd.lays197 s x w h0 hx
def Tryd.lays152_ren : Go.Shelf.Ren := ⟨fun | 152 => 89 | 137 => 91 | 119 => 92 | 224 => 93 | 225 => 94 | 217 => 95 | 266 => 96 | n => n, fun | 9 => 9 | 21 => 21 | 3 => 3 | 4 => 4 | 5 => 5 | 0 => 0 | 46 => 85 | n => n, fun | n => n⟩
theorem Tryd.lays152 : Go.Proofs.Lays.n152 Tryd.prog Tryd.lays152_ren := {
  mixed := by kernel_rfl
  f119 := Tryd.func92.trans (congrArg some (by kernel_rfl))
  f137 := Tryd.func91.trans (congrArg some (by kernel_rfl))
  f152 := Tryd.func89.trans (congrArg some (by kernel_rfl))
  f217 := Tryd.func95.trans (congrArg some (by kernel_rfl))
  f224 := Tryd.func93.trans (congrArg some (by kernel_rfl))
  f225 := Tryd.func94.trans (congrArg some (by kernel_rfl))
  f266 := Tryd.func96.trans (congrArg some (by kernel_rfl))
  t0 := Tryd.underlying0
  a0 := Tryd.isAgg0
  z0 := Tryd.sizeOf0
  v0 := Tryd.zeroValue0
  t3 := Tryd.underlying3
  a3 := Tryd.isAgg3
  z3 := Tryd.sizeOf3
  v3 := Tryd.zeroValue3
  t4 := Tryd.underlying4
  a4 := Tryd.isAgg4
  z4 := Tryd.sizeOf4
  v4 := Tryd.zeroValue4
  t5 := Tryd.underlying5
  a5 := Tryd.isAgg5
  z5 := Tryd.sizeOf5
  v5 := Tryd.zeroValue5
  t9 := Tryd.underlying9
  a9 := Tryd.isAgg9
  z9 := Tryd.sizeOf9
  v9 := Tryd.zeroValue9
  t21 := Tryd.underlying21
  a21 := Tryd.isAgg21
  z21 := Tryd.sizeOf21
  v21 := Tryd.zeroValue21
  t46 := Tryd.underlying85
  a46 := Tryd.isAgg85
  z46 := Tryd.sizeOf85
  v46 := Tryd.zeroValue85 }
open Go.RowKit Go.Lib in
theorem Tryd.strings_IndexRune_ascii (s : ByteArray) (r : Int) (w : World) (h0 : 0 ≤ r) (h1 : r < 128) :
    Calls Tryd.prog 89 #[.string s, .int .i32 r] w fun e w' => e = .returned (.int .i64 (Lib.indexByte s.data.toList r.toNat.toUInt8)) ∧ w' = w := Any.strings_IndexRune_ascii Tryd.lays152 s r w h0 h1
def Tryd.lays151_ren : Go.Shelf.Ren := ⟨fun | 151 => 85 | 152 => 89 | 137 => 91 | 119 => 92 | 224 => 93 | 225 => 94 | 217 => 95 | 266 => 96 | n => n, fun | 9 => 9 | 21 => 21 | 4 => 4 | 3 => 3 | 5 => 5 | 0 => 0 | 46 => 85 | n => n, fun | n => n⟩
theorem Tryd.lays151 : Go.Proofs.Lays.n151 Tryd.prog Tryd.lays151_ren := {
  mixed := by kernel_rfl
  f119 := Tryd.func92.trans (congrArg some (by kernel_rfl))
  f137 := Tryd.func91.trans (congrArg some (by kernel_rfl))
  f151 := Tryd.func85.trans (congrArg some (by kernel_rfl))
  f152 := Tryd.func89.trans (congrArg some (by kernel_rfl))
  f217 := Tryd.func95.trans (congrArg some (by kernel_rfl))
  f224 := Tryd.func93.trans (congrArg some (by kernel_rfl))
  f225 := Tryd.func94.trans (congrArg some (by kernel_rfl))
  f266 := Tryd.func96.trans (congrArg some (by kernel_rfl))
  t0 := Tryd.underlying0
  a0 := Tryd.isAgg0
  z0 := Tryd.sizeOf0
  v0 := Tryd.zeroValue0
  t3 := Tryd.underlying3
  a3 := Tryd.isAgg3
  z3 := Tryd.sizeOf3
  v3 := Tryd.zeroValue3
  t4 := Tryd.underlying4
  a4 := Tryd.isAgg4
  z4 := Tryd.sizeOf4
  v4 := Tryd.zeroValue4
  t5 := Tryd.underlying5
  a5 := Tryd.isAgg5
  z5 := Tryd.sizeOf5
  v5 := Tryd.zeroValue5
  t9 := Tryd.underlying9
  a9 := Tryd.isAgg9
  z9 := Tryd.sizeOf9
  v9 := Tryd.zeroValue9
  t21 := Tryd.underlying21
  a21 := Tryd.isAgg21
  z21 := Tryd.sizeOf21
  v21 := Tryd.zeroValue21
  t46 := Tryd.underlying85
  a46 := Tryd.isAgg85
  z46 := Tryd.sizeOf85
  v46 := Tryd.zeroValue85 }
open Go.RowKit Go.Lib in
theorem Tryd.strings_ContainsRune_ascii (s : ByteArray) (r : Int) (w : World) (h0 : 0 ≤ r) (h1 : r < 128) :
    Calls Tryd.prog 85 #[.string s, .int .i32 r] w fun e w' => e = .returned (.bool (decide (0 ≤ Lib.indexByte s.data.toList r.toNat.toUInt8))) ∧ w' = w := Any.strings_ContainsRune_ascii Tryd.lays151 s r w h0 h1
def Tryd.lays227_ren : Go.Shelf.Ren := ⟨fun | 227 => 74 | n => n, fun | 9 => 9 | 116 => 77 | 4 => 4 | 0 => 0 | 3 => 3 | 5 => 5 | n => n, fun | n => n⟩
theorem Tryd.lays227 : Go.Proofs.Lays.n227 Tryd.prog Tryd.lays227_ren := {
  mixed := by kernel_rfl
  f227 := Tryd.func74.trans (congrArg some (by kernel_rfl))
  t0 := Tryd.underlying0
  a0 := Tryd.isAgg0
  z0 := Tryd.sizeOf0
  v0 := Tryd.zeroValue0
  t3 := Tryd.underlying3
  a3 := Tryd.isAgg3
  z3 := Tryd.sizeOf3
  v3 := Tryd.zeroValue3
  t4 := Tryd.underlying4
  a4 := Tryd.isAgg4
  z4 := Tryd.sizeOf4
  v4 := Tryd.zeroValue4
  t5 := Tryd.underlying5
  a5 := Tryd.isAgg5
  z5 := Tryd.sizeOf5
  v5 := Tryd.zeroValue5
  t9 := Tryd.underlying9
  a9 := Tryd.isAgg9
  z9 := Tryd.sizeOf9
  v9 := Tryd.zeroValue9
  t116 := Tryd.underlying77
  a116 := Tryd.isAgg77
  z116 := Tryd.sizeOf77 }
open Go.RowKit Go.Lib in
theorem Tryd.strings_makeASCIISet (hv116 : ∀ w, (zeroValue 77).run Tryd.prog w = .ok (.agg (Array.replicate 256 (.bool false))) w) (chars : ByteArray) (w : World) (hs : chars.size < 4294967281) (hascii : ∀ (j : Nat) b, chars.data.toList[j]? = some b → b.toNat < 128) :
    Calls Tryd.prog 74 #[.string chars] w fun e w' => e = .returned (.tuple #[.agg (Lib.setCells chars.data.toList), .bool true]) ∧ w' = w.alloc (.cells (Lib.setCells chars.data.toList) 77) := Any.strings_makeASCIISet Tryd.lays227 hv116 (by kernel_rfl) chars w hs hascii
def Tryd.lays228_ren : Go.Shelf.Ren := ⟨fun | 228 => 83 | n => n, fun | 124 => 81 | 5 => 5 | 4 => 4 | 0 => 0 | 116 => 77 | n => n, fun | n => n⟩
theorem Tryd.lays228 : Go.Proofs.Lays.n228 Tryd.prog Tryd.lays228_ren := {
  mixed := by kernel_rfl
  f228 := Tryd.func83.trans (congrArg some (by kernel_rfl))
  t0 := Tryd.underlying0
  a0 := Tryd.isAgg0
  z0 := Tryd.sizeOf0
  v0 := Tryd.zeroValue0
  t4 := Tryd.underlying4
  a4 := Tryd.isAgg4
  z4 := Tryd.sizeOf4
  v4 := Tryd.zeroValue4
  t5 := Tryd.underlying5
  a5 := Tryd.isAgg5
  z5 := Tryd.sizeOf5
  v5 := Tryd.zeroValue5
  t116 := Tryd.underlying77
  a116 := Tryd.isAgg77
  z116 := Tryd.sizeOf77
  t124 := Tryd.underlying81
  a124 := Tryd.isAgg81
  z124 := Tryd.sizeOf81
  v124 := Tryd.zeroValue81 }
open Go.RowKit Go.Lib in
/-- '(as *asciiSet) contains(c)': 'as[c]': the set lies at block b, whole. (LAID: no walk: one application.) -/
theorem Tryd.asciiSet_contains (b : Nat) (x : UInt8) (v : Bool) (w : World) (hc : w.cell? ⟨b, x.toNat, none⟩ = some (.bool v)) :
    Calls Tryd.prog 83 #[.pointer (some ⟨b, 0, none⟩), .int .u8 x.toNat] w fun e w' => e = .returned (.bool v) ∧ w' = w := Any.asciiSet_contains Tryd.lays228 b x v w hc
def Tryd.lays264_ren : Go.Shelf.Ren := ⟨fun | 264 => 63 | n => n, fun | 53 => 66 | 46 => 85 | n => n, fun | n => n⟩
theorem Tryd.lays264 : Go.Proofs.Lays.n264 Tryd.prog Tryd.lays264_ren := {
  mixed := by kernel_rfl
  f264 := Tryd.func63.trans (congrArg some (by kernel_rfl))
  t46 := Tryd.underlying85
  a46 := Tryd.isAgg85
  z46 := Tryd.sizeOf85
  v46 := Tryd.zeroValue85
  t53 := Tryd.underlying66
  a53 := Tryd.isAgg66
  z53 := Tryd.sizeOf66
  v53 := Tryd.zeroValue66 }
open Go.RowKit Go.Lib in
theorem Tryd.bits_Mul64 (x y : Nat) (hx : x < 18446744073709551616) (hy : y < 18446744073709551616) (w : World) :
    Calls Tryd.prog 63 #[.int .u64 x, .int .u64 y] w fun e w' => e = .returned (.tuple #[.int .u64 ((x * y / 18446744073709551616 : Nat) : Int), .int .u64 ((x * y % 18446744073709551616 : Nat) : Int)]) ∧ w' = w := Any.bits_Mul64 Tryd.lays264 x y hx hy w
def Tryd.lays260_ren : Go.Shelf.Ren := ⟨fun | 260 => 88 | n => n, fun | 9 => 9 | 21 => 21 | 3 => 3 | 4 => 4 | 5 => 5 | 119 => 91 | 0 => 0 | 46 => 85 | 139 => 94 | 138 => 93 | n => n, fun | 3 => 1 | 4 => 2 | n => n⟩
theorem Tryd.lays260 : Go.Proofs.Lays.n260 Tryd.prog Tryd.lays260_ren := {
  mixed := by kernel_rfl
  f260 := Tryd.func88.trans (congrArg some (by kernel_rfl))
  t0 := Tryd.underlying0
  a0 := Tryd.isAgg0
  z0 := Tryd.sizeOf0
  v0 := Tryd.zeroValue0
  t3 := Tryd.underlying3
  a3 := Tryd.isAgg3
  z3 := Tryd.sizeOf3
  v3 := Tryd.zeroValue3
  t4 := Tryd.underlying4
  a4 := Tryd.isAgg4
  z4 := Tryd.sizeOf4
  v4 := Tryd.zeroValue4
  t5 := Tryd.underlying5
  a5 := Tryd.isAgg5
  z5 := Tryd.sizeOf5
  v5 := Tryd.zeroValue5
  t9 := Tryd.underlying9
  a9 := Tryd.isAgg9
  z9 := Tryd.sizeOf9
  v9 := Tryd.zeroValue9
  t21 := Tryd.underlying21
  a21 := Tryd.isAgg21
  z21 := Tryd.sizeOf21
  v21 := Tryd.zeroValue21
  t46 := Tryd.underlying85
  a46 := Tryd.isAgg85
  z46 := Tryd.sizeOf85
  v46 := Tryd.zeroValue85
  t119 := Tryd.underlying91
  a119 := Tryd.isAgg91
  z119 := Tryd.sizeOf91
  t138 := Tryd.underlying93
  a138 := Tryd.isAgg93
  z138 := Tryd.sizeOf93
  v138 := Tryd.zeroValue93
  t139 := Tryd.underlying94
  a139 := Tryd.isAgg94
  z139 := Tryd.sizeOf94
  v139 := Tryd.zeroValue94
  g3 := by kernel_rfl
  g4 := by kernel_rfl }
open Go.RowKit Go.Lib in
theorem Tryd.utf8_decodeRuneInStringSlow (s : ByteArray) (w : World) (hT : Lib.Utf8Tabs 1 2 w) :
    Calls Tryd.prog 88 #[.string s] w fun e w' => e = .returned (.tuple #[.int .i32 (Lib.decodeGo s).1, .int .i64 (Lib.decodeGo s).2]) ∧ Below w.heap.size w w' := Any.utf8_decodeRuneInStringSlow Tryd.lays260 s w hT
open Go.RowKit Go.Lib in
/-- **unicode/utf8.DecodeRuneInString AT EVERY STRING.** (LAID: no walk: one application.) -/
theorem Tryd.utf8_DecodeRuneInString (s : ByteArray) (w : World) (hT : Lib.Utf8Tabs 1 2 w) :
    Calls Tryd.prog 84 #[.string s] w fun e w' => e = .returned (.tuple #[.int .i32 (Lib.decodeGo s).1, .int .i64 (Lib.decodeGo s).2]) ∧ Below w.heap.size w w' := Any.utf8_DecodeRuneInString Tryd.lays197 s w hT
def Tryd.lays271_ren : Go.Shelf.Ren := ⟨fun | 271 => 86 | 120 => 90 | 197 => 84 | 260 => 88 | n => n, fun | 9 => 9 | 21 => 21 | 3 => 3 | 4 => 4 | 5 => 5 | 105 => 87 | 119 => 91 | 0 => 0 | 46 => 85 | 139 => 94 | 138 => 93 | n => n, fun | 3 => 1 | 4 => 2 | n => n⟩
theorem Tryd.lays271 : Go.Proofs.Lays.n271 Tryd.prog Tryd.lays271_ren := {
  mixed := by kernel_rfl
  f120 := Tryd.func90.trans (congrArg some (by kernel_rfl))
  f197 := Tryd.func84.trans (congrArg some (by kernel_rfl))
  f260 := Tryd.func88.trans (congrArg some (by kernel_rfl))
  f271 := Tryd.func86.trans (congrArg some (by kernel_rfl))
  t0 := Tryd.underlying0
  a0 := Tryd.isAgg0
  z0 := Tryd.sizeOf0
  v0 := Tryd.zeroValue0
  t3 := Tryd.underlying3
  a3 := Tryd.isAgg3
  z3 := Tryd.sizeOf3
  v3 := Tryd.zeroValue3
  t4 := Tryd.underlying4
  a4 := Tryd.isAgg4
  z4 := Tryd.sizeOf4
  v4 := Tryd.zeroValue4
  t5 := Tryd.underlying5
  a5 := Tryd.isAgg5
  z5 := Tryd.sizeOf5
  v5 := Tryd.zeroValue5
  t9 := Tryd.underlying9
  a9 := Tryd.isAgg9
  z9 := Tryd.sizeOf9
  v9 := Tryd.zeroValue9
  t21 := Tryd.underlying21
  a21 := Tryd.isAgg21
  z21 := Tryd.sizeOf21
  v21 := Tryd.zeroValue21
  t46 := Tryd.underlying85
  a46 := Tryd.isAgg85
  z46 := Tryd.sizeOf85
  v46 := Tryd.zeroValue85
  t105 := Tryd.underlying87
  a105 := Tryd.isAgg87
  z105 := Tryd.sizeOf87
  v105 := Tryd.zeroValue87
  t119 := Tryd.underlying91
  a119 := Tryd.isAgg91
  z119 := Tryd.sizeOf91
  t138 := Tryd.underlying93
  a138 := Tryd.isAgg93
  z138 := Tryd.sizeOf93
  v138 := Tryd.zeroValue93
  t139 := Tryd.underlying94
  a139 := Tryd.isAgg94
  z139 := Tryd.sizeOf94
  v139 := Tryd.zeroValue94
  g3 := by kernel_rfl
  g4 := by kernel_rfl }
open Go.RowKit Go.Lib in
/-- **unicode/utf8.DecodeLastRuneInString AT EVERY STRING.** (LAID: no walk: one application.) -/
theorem Tryd.utf8_DecodeLastRuneInString (s : ByteArray) (w : World) (hs : s.size ≤ 9223372036854775807) (hT : Lib.Utf8Tabs 1 2 w) :
    Calls Tryd.prog 86 #[.string s] w fun e w' => e = .returned (.tuple #[.int .i32 (Lib.decodeLastL s.data.toList).1, .int .i64 (Lib.decodeLastL s.data.toList).2]) ∧ Below w.heap.size w w' := Any.utf8_DecodeLastRuneInString Tryd.lays271 s w hs hT
end Go.Proofs

namespace Go.Proofs.YtlmkhpgnkpgbdaaDoor
open Go.RowKit
set_option linter.unusedVariables false
set_option linter.unusedSimpArgs false
namespace Vl
theorem Nw.drewM {a w : World} (h : Nw a w) (n : Nat) : Nw a (w.drewN n) := Below.trans h ⟨rfl, rfl, rfl, Nat.le_refl _, fun _ _ => rfl⟩
theorem size_any (n : Int) (w : World) (h0 : -9223372036854775808 ≤ n) (h1 : n ≤ 9223372036854775807) : Calls Tryd.prog 64 #[.int .i64 n] w fun e w' => e = .returned (.int .u64 (n.natAbs : Int)) ∧ w' = w := by
  by_cases h : n < 0
  · go_enter Tryd.func64, Tryd.ntmps64
    go_wp2
    go_ret
    exact ⟨ret_int (by rw [IntKind.wrap_u64, IntKind.wrap_u64]; omega), rfl⟩
  · go_enter Tryd.func64, Tryd.ntmps64
    go_wp2
    go_ret
    exact ⟨ret_int (by omega), rfl⟩
def mulOk (a b : Int) : Bool := decide (a.natAbs * b.natAbs / 18446744073709551616 = 0) && decide (((a.natAbs * b.natAbs % 18446744073709551616 : Nat) : Int) ≤ if (!(decide (a < 0) == decide (b < 0))) = true then 9223372036854775808 else 9223372036854775807)
theorem mulOk_of (a b hi lo m : Int) (b0 : Bool) (h : ((a.natAbs * b.natAbs / 18446744073709551616 : Nat) : Int) = hi) (l : ((a.natAbs * b.natAbs % 18446744073709551616 : Nat) : Int) = lo)
    (hs : (!(decide (a < 0) == decide (b < 0))) = b0) (hm : (if b0 = true then 9223372036854775808 else 9223372036854775807) = m) : mulOk a b = (decide (hi = 0) && decide (lo ≤ m)) := by
  subst h l hs hm
  unfold mulOk
  congr 1
  simp only [decide_eq_decide]
  omega
def szQ (a b hi lo : Int) : Prop := ∀ w : World, Calls Tryd.prog 63 #[.int .u64 (a.natAbs : Int), .int .u64 (b.natAbs : Int)] w fun e w' => e = .returned (.tuple #[.int .u64 hi, .int .u64 lo]) ∧ w' = w
set_option maxRecDepth 100000 in
set_option maxHeartbeats 1000000 in
theorem mul_0 (p q : Nat) (a b hi lo : Int) (w : World) (c1 : w.cell? ⟨p, 1, none⟩ = some (.int .i64 a)) (c2 : w.cell? ⟨q, 1, none⟩ = some (.int .i64 b)) (a0 : -9223372036854775808 ≤ a) (a1 : a ≤ 9223372036854775807) (b0 : -9223372036854775808 ≤ b) (b1 : b ≤ 9223372036854775807) (hz : szQ a b hi lo) (hs : (decide (a < 0) == decide (b < 0)) = false) (hh : (hi == 0) = true) (hl : decide (lo ≤ 9223372036854775808) = true) : Calls Tryd.prog 62 #[.pointer (some ⟨p, 0, none⟩), .pointer (some ⟨q, 0, none⟩)] w fun e w' => e = .returned (.tuple #[.agg #[.int .i64 1, .int .i64 (wrap64 (a * b)), .string E, .bool false], .string sDone]) ∧ Nw w w' := by
  have lp := World.block_lt_of_cell? w _ c1
  have lq := World.block_lt_of_cell? w _ c2
  simp only at lp lq
  have np : ¬ w.heap.size = p := by omega
  have nq : ¬ w.heap.size = q := by omega
  go_enter Tryd.func62, Tryd.ntmps62
  go_wp2_with fail
  go_quiet ((first | (go_at_call 64; exact Calls.quiet_of_same (size_any _ _ (by assumption) (by assumption))) | (go_at_call 63; exact Calls.quiet_of_same (hz _))))
  go_wp2_with fail
  refine (number_t _ _).mono ?_
  rintro e w1 ⟨rfl, hb⟩
  obtain ⟨q1, q2⟩ := hb.at_ w.heap.size (by simp)
  have hz := hb.size
  (try simp at hz)
  have G := Lib.hid hb
  clear hb
  go_wp2_with fail
  exact bodyPost_ret (v := .tuple #[.agg #[.int .i64 1, .int .i64 (wrap64 (a * b)), .string E, .bool false], .string sDone]) (by simp [results, Tryd.results62, go_sem, q1]) rfl ⟨rfl, by (first | refine Nw.setCell ?_ (by simp) _ | skip); (repeat refine Nw.setCell ?_ (by simp) _); exact Nw.to (Nw.drewM ((Nw.refl w).alloc _) _) G.out⟩
set_option maxRecDepth 100000 in
set_option maxHeartbeats 1000000 in
theorem mul_1 (p q : Nat) (a b hi lo : Int) (w : World) (c1 : w.cell? ⟨p, 1, none⟩ = some (.int .i64 a)) (c2 : w.cell? ⟨q, 1, none⟩ = some (.int .i64 b)) (a0 : -9223372036854775808 ≤ a) (a1 : a ≤ 9223372036854775807) (b0 : -9223372036854775808 ≤ b) (b1 : b ≤ 9223372036854775807) (hz : szQ a b hi lo) (hs : (decide (a < 0) == decide (b < 0)) = false) (hh : (hi == 0) = true) (hl : decide (lo ≤ 9223372036854775808) = false) : Calls Tryd.prog 62 #[.pointer (some ⟨p, 0, none⟩), .pointer (some ⟨q, 0, none⟩)] w fun e w' => e = .returned (.tuple #[.agg #[.int .i64 0, .int .i64 0, .string E, .bool false], .string sRange]) ∧ Nw w w' := by
  have lp := World.block_lt_of_cell? w _ c1
  have lq := World.block_lt_of_cell? w _ c2
  simp only at lp lq
  have np : ¬ w.heap.size = p := by omega
  have nq : ¬ w.heap.size = q := by omega
  go_enter Tryd.func62, Tryd.ntmps62
  go_wp2_with fail
  go_quiet ((first | (go_at_call 64; exact Calls.quiet_of_same (size_any _ _ (by assumption) (by assumption))) | (go_at_call 63; exact Calls.quiet_of_same (hz _))))
  go_wp2_with fail
  refine (number_f _ _).mono ?_
  rintro e w1 ⟨rfl, hb⟩
  obtain ⟨q1, q2⟩ := hb.at_ w.heap.size (by simp)
  have hz := hb.size
  (try simp at hz)
  have G := Lib.hid hb
  clear hb
  go_wp2_with fail
  exact bodyPost_ret (v := .tuple #[.agg #[.int .i64 0, .int .i64 0, .string E, .bool false], .string sRange]) (by simp [results, Tryd.results62, go_sem, q1]) rfl ⟨rfl, by (first | refine Nw.setCell ?_ (by simp) _ | skip); (repeat refine Nw.setCell ?_ (by simp) _); exact Nw.to (Nw.drewM ((Nw.refl w).alloc _) _) G.out⟩
set_option maxRecDepth 100000 in
set_option maxHeartbeats 1000000 in
theorem mul_2 (p q : Nat) (a b hi lo : Int) (w : World) (c1 : w.cell? ⟨p, 1, none⟩ = some (.int .i64 a)) (c2 : w.cell? ⟨q, 1, none⟩ = some (.int .i64 b)) (a0 : -9223372036854775808 ≤ a) (a1 : a ≤ 9223372036854775807) (b0 : -9223372036854775808 ≤ b) (b1 : b ≤ 9223372036854775807) (hz : szQ a b hi lo) (hs : (decide (a < 0) == decide (b < 0)) = false) (hh : (hi == 0) = false) : Calls Tryd.prog 62 #[.pointer (some ⟨p, 0, none⟩), .pointer (some ⟨q, 0, none⟩)] w fun e w' => e = .returned (.tuple #[.agg #[.int .i64 0, .int .i64 0, .string E, .bool false], .string sRange]) ∧ Nw w w' := by
  have lp := World.block_lt_of_cell? w _ c1
  have lq := World.block_lt_of_cell? w _ c2
  simp only at lp lq
  have np : ¬ w.heap.size = p := by omega
  have nq : ¬ w.heap.size = q := by omega
  go_enter Tryd.func62, Tryd.ntmps62
  go_wp2_with fail
  go_quiet ((first | (go_at_call 64; exact Calls.quiet_of_same (size_any _ _ (by assumption) (by assumption))) | (go_at_call 63; exact Calls.quiet_of_same (hz _))))
  go_wp2_with fail
  refine (number_f _ _).mono ?_
  rintro e w1 ⟨rfl, hb⟩
  obtain ⟨q1, q2⟩ := hb.at_ w.heap.size (by simp)
  have hz := hb.size
  (try simp at hz)
  have G := Lib.hid hb
  clear hb
  go_wp2_with fail
  exact bodyPost_ret (v := .tuple #[.agg #[.int .i64 0, .int .i64 0, .string E, .bool false], .string sRange]) (by simp [results, Tryd.results62, go_sem, q1]) rfl ⟨rfl, by (first | refine Nw.setCell ?_ (by simp) _ | skip); (repeat refine Nw.setCell ?_ (by simp) _); exact Nw.to (Nw.drewM ((Nw.refl w).alloc _) _) G.out⟩
set_option maxRecDepth 100000 in
set_option maxHeartbeats 1000000 in
theorem mul_3 (p q : Nat) (a b hi lo : Int) (w : World) (c1 : w.cell? ⟨p, 1, none⟩ = some (.int .i64 a)) (c2 : w.cell? ⟨q, 1, none⟩ = some (.int .i64 b)) (a0 : -9223372036854775808 ≤ a) (a1 : a ≤ 9223372036854775807) (b0 : -9223372036854775808 ≤ b) (b1 : b ≤ 9223372036854775807) (hz : szQ a b hi lo) (hs : (decide (a < 0) == decide (b < 0)) = true) (hh : (hi == 0) = true) (hl : decide (lo ≤ 9223372036854775807) = true) : Calls Tryd.prog 62 #[.pointer (some ⟨p, 0, none⟩), .pointer (some ⟨q, 0, none⟩)] w fun e w' => e = .returned (.tuple #[.agg #[.int .i64 1, .int .i64 (wrap64 (a * b)), .string E, .bool false], .string sDone]) ∧ Nw w w' := by
  have lp := World.block_lt_of_cell? w _ c1
  have lq := World.block_lt_of_cell? w _ c2
  simp only at lp lq
  have np : ¬ w.heap.size = p := by omega
  have nq : ¬ w.heap.size = q := by omega
  go_enter Tryd.func62, Tryd.ntmps62
  go_wp2_with fail
  go_quiet ((first | (go_at_call 64; exact Calls.quiet_of_same (size_any _ _ (by assumption) (by assumption))) | (go_at_call 63; exact Calls.quiet_of_same (hz _))))
  go_wp2_with fail
  refine (number_t _ _).mono ?_
  rintro e w1 ⟨rfl, hb⟩
  obtain ⟨q1, q2⟩ := hb.at_ w.heap.size (by simp)
  have hz := hb.size
  (try simp at hz)
  have G := Lib.hid hb
  clear hb
  go_wp2_with fail
  exact bodyPost_ret (v := .tuple #[.agg #[.int .i64 1, .int .i64 (wrap64 (a * b)), .string E, .bool false], .string sDone]) (by simp [results, Tryd.results62, go_sem, q1]) rfl ⟨rfl, by (first | refine Nw.setCell ?_ (by simp) _ | skip); (repeat refine Nw.setCell ?_ (by simp) _); exact Nw.to (Nw.drewM ((Nw.refl w).alloc _) _) G.out⟩
set_option maxRecDepth 100000 in
set_option maxHeartbeats 1000000 in
theorem mul_4 (p q : Nat) (a b hi lo : Int) (w : World) (c1 : w.cell? ⟨p, 1, none⟩ = some (.int .i64 a)) (c2 : w.cell? ⟨q, 1, none⟩ = some (.int .i64 b)) (a0 : -9223372036854775808 ≤ a) (a1 : a ≤ 9223372036854775807) (b0 : -9223372036854775808 ≤ b) (b1 : b ≤ 9223372036854775807) (hz : szQ a b hi lo) (hs : (decide (a < 0) == decide (b < 0)) = true) (hh : (hi == 0) = true) (hl : decide (lo ≤ 9223372036854775807) = false) : Calls Tryd.prog 62 #[.pointer (some ⟨p, 0, none⟩), .pointer (some ⟨q, 0, none⟩)] w fun e w' => e = .returned (.tuple #[.agg #[.int .i64 0, .int .i64 0, .string E, .bool false], .string sRange]) ∧ Nw w w' := by
  have lp := World.block_lt_of_cell? w _ c1
  have lq := World.block_lt_of_cell? w _ c2
  simp only at lp lq
  have np : ¬ w.heap.size = p := by omega
  have nq : ¬ w.heap.size = q := by omega
  go_enter Tryd.func62, Tryd.ntmps62
  go_wp2_with fail
  go_quiet ((first | (go_at_call 64; exact Calls.quiet_of_same (size_any _ _ (by assumption) (by assumption))) | (go_at_call 63; exact Calls.quiet_of_same (hz _))))
  go_wp2_with fail
  refine (number_f _ _).mono ?_
  rintro e w1 ⟨rfl, hb⟩
  obtain ⟨q1, q2⟩ := hb.at_ w.heap.size (by simp)
  have hz := hb.size
  (try simp at hz)
  have G := Lib.hid hb
  clear hb
  go_wp2_with fail
  exact bodyPost_ret (v := .tuple #[.agg #[.int .i64 0, .int .i64 0, .string E, .bool false], .string sRange]) (by simp [results, Tryd.results62, go_sem, q1]) rfl ⟨rfl, by (first | refine Nw.setCell ?_ (by simp) _ | skip); (repeat refine Nw.setCell ?_ (by simp) _); exact Nw.to (Nw.drewM ((Nw.refl w).alloc _) _) G.out⟩
set_option maxRecDepth 100000 in
set_option maxHeartbeats 1000000 in
theorem mul_5 (p q : Nat) (a b hi lo : Int) (w : World) (c1 : w.cell? ⟨p, 1, none⟩ = some (.int .i64 a)) (c2 : w.cell? ⟨q, 1, none⟩ = some (.int .i64 b)) (a0 : -9223372036854775808 ≤ a) (a1 : a ≤ 9223372036854775807) (b0 : -9223372036854775808 ≤ b) (b1 : b ≤ 9223372036854775807) (hz : szQ a b hi lo) (hs : (decide (a < 0) == decide (b < 0)) = true) (hh : (hi == 0) = false) : Calls Tryd.prog 62 #[.pointer (some ⟨p, 0, none⟩), .pointer (some ⟨q, 0, none⟩)] w fun e w' => e = .returned (.tuple #[.agg #[.int .i64 0, .int .i64 0, .string E, .bool false], .string sRange]) ∧ Nw w w' := by
  have lp := World.block_lt_of_cell? w _ c1
  have lq := World.block_lt_of_cell? w _ c2
  simp only at lp lq
  have np : ¬ w.heap.size = p := by omega
  have nq : ¬ w.heap.size = q := by omega
  go_enter Tryd.func62, Tryd.ntmps62
  go_wp2_with fail
  go_quiet ((first | (go_at_call 64; exact Calls.quiet_of_same (size_any _ _ (by assumption) (by assumption))) | (go_at_call 63; exact Calls.quiet_of_same (hz _))))
  go_wp2_with fail
  refine (number_f _ _).mono ?_
  rintro e w1 ⟨rfl, hb⟩
  obtain ⟨q1, q2⟩ := hb.at_ w.heap.size (by simp)
  have hz := hb.size
  (try simp at hz)
  have G := Lib.hid hb
  clear hb
  go_wp2_with fail
  exact bodyPost_ret (v := .tuple #[.agg #[.int .i64 0, .int .i64 0, .string E, .bool false], .string sRange]) (by simp [results, Tryd.results62, go_sem, q1]) rfl ⟨rfl, by (first | refine Nw.setCell ?_ (by simp) _ | skip); (repeat refine Nw.setCell ?_ (by simp) _); exact Nw.to (Nw.drewM ((Nw.refl w).alloc _) _) G.out⟩
end Vl
end Go.Proofs.YtlmkhpgnkpgbdaaDoor

namespace Go.Proofs.YtlmkhpgnkpgbdaaDoor
open Go.RowKit
set_option linter.unusedVariables false
set_option linter.unusedSimpArgs false
namespace Vl
set_option maxRecDepth 100000 in
theorem con_f (p q : Nat) (a b : ByteArray) (w : World) (c1 : w.cell? ⟨p, 2, none⟩ = some (.string a)) (c2 : w.cell? ⟨q, 2, none⟩ = some (.string b)) (ha : a.size ≤ 140737488351232) (hb0 : b.size ≤ 140737488351232) (hk : (400 : Int) < (a.size : Int) + b.size) : Calls Tryd.prog 54 #[.pointer (some ⟨p, 0, none⟩), .pointer (some ⟨q, 0, none⟩)] w fun e w' => e = .returned (.tuple #[.agg #[.int .i64 0, .int .i64 0, .string E, .bool false], .string sLong]) ∧ Nw w w' := by
  have lp := World.block_lt_of_cell? w _ c1
  have lq := World.block_lt_of_cell? w _ c2
  simp only at lp lq
  go_enter Tryd.func54, Tryd.ntmps54
  go_wp2
  exact bodyPost_ret (v := .tuple #[.agg #[.int .i64 0, .int .i64 0, .string E, .bool false], .string sLong]) (by simp [results, Tryd.results54, go_sem]) rfl ⟨rfl, (by repeat (first | exact Nw.refl _ | assumption | apply Nw.alloc | apply Nw.drew | refine Nw.setCell ?_ (by simp <;> omega) _))⟩
set_option maxRecDepth 100000 in
theorem con_t (p q : Nat) (a b : ByteArray) (w : World) (c1 : w.cell? ⟨p, 2, none⟩ = some (.string a)) (c2 : w.cell? ⟨q, 2, none⟩ = some (.string b)) (ha : a.size ≤ 140737488351232) (hb0 : b.size ≤ 140737488351232) (hk : ¬ (400 : Int) < (a.size : Int) + b.size) : Calls Tryd.prog 54 #[.pointer (some ⟨p, 0, none⟩), .pointer (some ⟨q, 0, none⟩)] w fun e w' => e = .returned (.tuple #[.agg #[.int .i64 2, .int .i64 0, .string (a ++ b), .bool false], .string sDone]) ∧ Nw w w' := by
  have lp := World.block_lt_of_cell? w _ c1
  have lq := World.block_lt_of_cell? w _ c2
  simp only at lp lq
  go_enter Tryd.func54, Tryd.ntmps54
  go_wp2_with fail
  refine (text_any _ _).mono ?_
  rintro e w1 ⟨rfl, hb⟩
  obtain ⟨q1, q2⟩ := hb.at_ w.heap.size (by simp)
  have hz := hb.size
  (try simp at hz)
  have G := Lib.hid (((Nw.refl w).alloc _).to hb)
  clear hb
  go_wp2_with fail
  exact bodyPost_ret (v := .tuple #[.agg #[.int .i64 2, .int .i64 0, .string (a ++ b), .bool false], .string sDone]) (by simp [results, Tryd.results54, go_sem, q1]) rfl ⟨rfl, (by repeat (first | exact Nw.refl _ | exact G.out | apply Nw.alloc | apply Nw.drew | refine Nw.setCell ?_ (by simp <;> omega) _))⟩
end Vl
end Go.Proofs.YtlmkhpgnkpgbdaaDoor

namespace Go.Proofs.YtlmkhpgnkpgbdaaDoor
open Go.RowKit
set_option linter.unusedVariables false
set_option linter.unusedSimpArgs false
namespace Vl
abbrev R5 := Int × Int × ByteArray × Bool × ByteArray
abbrev nulR (s : ByteArray) : R5 := (0, 0, E, false, s)
/-- what an operation on values of kind k comes to, r: on what is in them -/
def liftF (k k1 k2 : Int) (r : R5) : R5 := if (k1 ≠ 0 ∧ k1 ≠ k) ∨ (k2 ≠ 0 ∧ k2 ≠ k) then nulR sMis else if k1 = 0 ∨ k2 = 0 then nulR sDone else r
def inF (ok : Bool) (n : Int) : R5 := if ok = true then (1, n, E, false, sDone) else nulR sRange
def addF (a b : Int) : R5 := inF (decide (a < wrap64 (a + b)) == decide (0 < b)) (wrap64 (a + b))
def subF (a b : Int) : R5 := inF (decide (wrap64 (a - b) < a) == decide (0 < b)) (wrap64 (a - b))
def mulF (a b : Int) : R5 := inF (mulOk a b) (wrap64 (a * b))
def divF (a b : Int) : R5 := if b = 0 then nulR sZero else inF ((a != -9223372036854775808) || (b != -1)) (wrap64 (a.tdiv b))
def conF (a b : ByteArray) : R5 := if (400 : Int) < (a.size : Int) + b.size then nulR sLong else (2, 0, a ++ b, false, sDone)
def Fit (a : Int) : Prop := -9223372036854775808 ≤ a ∧ a ≤ 9223372036854775807
theorem liftF_mis (k k1 k2 : Int) (r : R5) (h : (k1 ≠ 0 ∧ k1 ≠ k) ∨ (k2 ≠ 0 ∧ k2 ≠ k)) : liftF k k1 k2 r = nulR sMis := if_pos h
theorem liftF_nul (k k1 k2 : Int) (r : R5) (h : ¬ ((k1 ≠ 0 ∧ k1 ≠ k) ∨ (k2 ≠ 0 ∧ k2 ≠ k))) (h2 : k1 = 0 ∨ k2 = 0) : liftF k k1 k2 r = nulR sDone := by unfold liftF; rw [if_neg h, if_pos h2]
theorem liftF_do (k : Int) (hk : k ≠ 0) (r : R5) : liftF k k k r = r := by unfold liftF; rw [if_neg (by simp), if_neg (by simp [hk])]
theorem inF_t (n : Int) : inF true n = (1, n, E, false, sDone) := rfl
theorem inF_f (n : Int) : inF false n = nulR sRange := rfl
theorem add_do (p q : Nat) (a b : Int) (w : World) (c1 : w.cell? ⟨p, 1, none⟩ = some (.int .i64 a)) (c2 : w.cell? ⟨q, 1, none⟩ = some (.int .i64 b)) (r1 r2 : Int) (r3 : ByteArray) (r4 : Bool) (r5 : ByteArray) (h : addF a b = (r1, r2, r3, r4, r5)) : Calls Tryd.prog 58 #[.pointer (some ⟨p, 0, none⟩), .pointer (some ⟨q, 0, none⟩)] w fun e w' => e = .returned (.tuple #[.agg #[.int .i64 r1, .int .i64 r2, .string r3, .bool r4], .string r5]) ∧ Nw w w' := by
  unfold addF at h
  cases hk : (decide (a < wrap64 (a + b)) == decide (0 < b)) <;> rw [hk] at h <;> simp only [inF_t, inF_f, nulR, Prod.mk.injEq] at h <;> obtain ⟨rfl, rfl, rfl, rfl, rfl⟩ := h
  · exact add_f p q a b w c1 c2 hk
  · exact add_t p q a b w c1 c2 hk
theorem sub_do (p q : Nat) (a b : Int) (w : World) (c1 : w.cell? ⟨p, 1, none⟩ = some (.int .i64 a)) (c2 : w.cell? ⟨q, 1, none⟩ = some (.int .i64 b)) (r1 r2 : Int) (r3 : ByteArray) (r4 : Bool) (r5 : ByteArray) (h : subF a b = (r1, r2, r3, r4, r5)) : Calls Tryd.prog 60 #[.pointer (some ⟨p, 0, none⟩), .pointer (some ⟨q, 0, none⟩)] w fun e w' => e = .returned (.tuple #[.agg #[.int .i64 r1, .int .i64 r2, .string r3, .bool r4], .string r5]) ∧ Nw w w' := by
  unfold subF at h
  cases hk : (decide (wrap64 (a - b) < a) == decide (0 < b)) <;> rw [hk] at h <;> simp only [inF_t, inF_f, nulR, Prod.mk.injEq] at h <;> obtain ⟨rfl, rfl, rfl, rfl, rfl⟩ := h
  · exact sub_f p q a b w c1 c2 hk
  · exact sub_t p q a b w c1 c2 hk
theorem div_do (p q : Nat) (b a : Int) (w : World) (c1 : w.cell? ⟨p, 1, none⟩ = some (.int .i64 b)) (c2 : w.cell? ⟨q, 1, none⟩ = some (.int .i64 a)) (r1 r2 : Int) (r3 : ByteArray) (r4 : Bool) (r5 : ByteArray) (h : divF a b = (r1, r2, r3, r4, r5)) : Calls Tryd.prog 61 #[.pointer (some ⟨p, 0, none⟩), .pointer (some ⟨q, 0, none⟩)] w fun e w' => e = .returned (.tuple #[.agg #[.int .i64 r1, .int .i64 r2, .string r3, .bool r4], .string r5]) ∧ Nw w w' := by
  unfold divF at h
  by_cases e0 : b = 0
  · rw [if_pos e0] at h
    simp only [nulR, Prod.mk.injEq] at h
    obtain ⟨rfl, rfl, rfl, rfl, rfl⟩ := h
    rw [e0] at c1
    exact div_0 p q w c1
  · rw [if_neg e0] at h
    have e1 : (b == 0) = false := beq_eq_false_iff_ne.2 e0
    cases h1 : (a != -9223372036854775808)
    · cases h2 : (b != -1) <;> rw [h1, h2] at h <;> simp only [Bool.or_self, Bool.false_or, Bool.or_true, inF_t, inF_f, nulR, Prod.mk.injEq] at h <;> obtain ⟨rfl, rfl, rfl, rfl, rfl⟩ := h
      · exact div_3 p q a b w c1 c2 e1 e0 h1 h2
      · exact div_2 p q a b w c1 c2 e1 e0 h1 h2
    · rw [h1] at h
      simp only [Bool.true_or, inF_t, nulR, Prod.mk.injEq] at h
      obtain ⟨rfl, rfl, rfl, rfl, rfl⟩ := h
      exact div_1 p q a b w c1 c2 e1 e0 h1
theorem con_do (p q : Nat) (a b : ByteArray) (w : World) (c1 : w.cell? ⟨p, 2, none⟩ = some (.string a)) (c2 : w.cell? ⟨q, 2, none⟩ = some (.string b)) (ha : a.size ≤ 140737488351232) (hb : b.size ≤ 140737488351232) (r1 r2 : Int) (r3 : ByteArray) (r4 : Bool) (r5 : ByteArray) (h : conF a b = (r1, r2, r3, r4, r5)) : Calls Tryd.prog 54 #[.pointer (some ⟨p, 0, none⟩), .pointer (some ⟨q, 0, none⟩)] w fun e w' => e = .returned (.tuple #[.agg #[.int .i64 r1, .int .i64 r2, .string r3, .bool r4], .string r5]) ∧ Nw w w' := by
  unfold conF at h
  by_cases hk : (400 : Int) < (a.size : Int) + b.size
  · rw [if_pos hk] at h
    simp only [nulR, Prod.mk.injEq] at h
    obtain ⟨rfl, rfl, rfl, rfl, rfl⟩ := h
    exact con_f p q a b w c1 c2 ha hb hk
  · rw [if_neg hk] at h
    simp only [nulR, Prod.mk.injEq] at h
    obtain ⟨rfl, rfl, rfl, rfl, rfl⟩ := h
    exact con_t p q a b w c1 c2 ha hb hk
theorem mul_do (p q : Nat) (a b : Int) (w : World) (c1 : w.cell? ⟨p, 1, none⟩ = some (.int .i64 a)) (c2 : w.cell? ⟨q, 1, none⟩ = some (.int .i64 b)) (ha : Fit a) (hb : Fit b) (r1 r2 : Int) (r3 : ByteArray) (r4 : Bool) (r5 : ByteArray) (h : mulF a b = (r1, r2, r3, r4, r5)) : Calls Tryd.prog 62 #[.pointer (some ⟨p, 0, none⟩), .pointer (some ⟨q, 0, none⟩)] w fun e w' => e = .returned (.tuple #[.agg #[.int .i64 r1, .int .i64 r2, .string r3, .bool r4], .string r5]) ∧ Nw w w' := by
  unfold mulF at h
  have hz : szQ a b ((a.natAbs * b.natAbs / 18446744073709551616 : Nat) : Int) ((a.natAbs * b.natAbs % 18446744073709551616 : Nat) : Int) := fun w => Tryd.bits_Mul64 _ _ (by unfold Fit at ha; omega) (by unfold Fit at hb; omega) w
  generalize hhi : ((a.natAbs * b.natAbs / 18446744073709551616 : Nat) : Int) = hi at hz
  generalize hlo : ((a.natAbs * b.natAbs % 18446744073709551616 : Nat) : Int) = lo at hz
  cases hs : (decide (a < 0) == decide (b < 0))
  · rw [mulOk_of a b hi lo 9223372036854775808 true hhi hlo (by rw [hs]; rfl) rfl] at h
    by_cases h1 : hi = 0
    · by_cases h2 : lo ≤ 9223372036854775808
      · rw [decide_eq_true h1, decide_eq_true h2] at h
        simp only [Bool.and_self, inF_t, nulR, Prod.mk.injEq] at h
        obtain ⟨rfl, rfl, rfl, rfl, rfl⟩ := h
        exact mul_0 p q a b hi lo w c1 c2 ha.1 ha.2 hb.1 hb.2 hz hs (beq_iff_eq.2 h1) (decide_eq_true h2)
      · rw [decide_eq_true h1, decide_eq_false h2] at h
        simp only [Bool.and_false, inF_f, nulR, Prod.mk.injEq] at h
        obtain ⟨rfl, rfl, rfl, rfl, rfl⟩ := h
        exact mul_1 p q a b hi lo w c1 c2 ha.1 ha.2 hb.1 hb.2 hz hs (beq_iff_eq.2 h1) (decide_eq_false h2)
    · rw [decide_eq_false h1] at h
      simp only [Bool.false_and, inF_f, nulR, Prod.mk.injEq] at h
      obtain ⟨rfl, rfl, rfl, rfl, rfl⟩ := h
      exact mul_2 p q a b hi lo w c1 c2 ha.1 ha.2 hb.1 hb.2 hz hs (beq_eq_false_iff_ne.2 h1)
  · rw [mulOk_of a b hi lo 9223372036854775807 false hhi hlo (by rw [hs]; rfl) rfl] at h
    by_cases h1 : hi = 0
    · by_cases h2 : lo ≤ 9223372036854775807
      · rw [decide_eq_true h1, decide_eq_true h2] at h
        simp only [Bool.and_self, inF_t, nulR, Prod.mk.injEq] at h
        obtain ⟨rfl, rfl, rfl, rfl, rfl⟩ := h
        exact mul_3 p q a b hi lo w c1 c2 ha.1 ha.2 hb.1 hb.2 hz hs (beq_iff_eq.2 h1) (decide_eq_true h2)
      · rw [decide_eq_true h1, decide_eq_false h2] at h
        simp only [Bool.and_false, inF_f, nulR, Prod.mk.injEq] at h
        obtain ⟨rfl, rfl, rfl, rfl, rfl⟩ := h
        exact mul_4 p q a b hi lo w c1 c2 ha.1 ha.2 hb.1 hb.2 hz hs (beq_iff_eq.2 h1) (decide_eq_false h2)
    · rw [decide_eq_false h1] at h
      simp only [Bool.false_and, inF_f, nulR, Prod.mk.injEq] at h
      obtain ⟨rfl, rfl, rfl, rfl, rfl⟩ := h
      exact mul_5 p q a b hi lo w c1 c2 ha.1 ha.2 hb.1 hb.2 hz hs (beq_eq_false_iff_ne.2 h1)
end Vl
end Go.Proofs.YtlmkhpgnkpgbdaaDoor

namespace Go.Proofs.YtlmkhpgnkpgbdaaDoor
open Go.RowKit
set_option linter.unusedVariables false
set_option linter.unusedSimpArgs false
namespace Vl
theorem lift11 (r : R5) : liftF 1 1 1 r = r := by unfold liftF; rw [if_neg (by decide), if_neg (by decide)]
theorem add_yes (a b c : Int) (hc : wrap64 (a + b) = c) (h : (decide (a < c) == decide (0 < b)) = true) : liftF 1 1 1 (addF a b) = (1, c, E, false, sDone) := by
  rw [lift11]; unfold addF inF; rw [hc, if_pos h]
theorem add_no (a b c : Int) (hc : wrap64 (a + b) = c) (h : (decide (a < c) == decide (0 < b)) = false) : liftF 1 1 1 (addF a b) = (0, 0, E, false, sRange) := by
  rw [lift11]; unfold addF inF; rw [hc, if_neg (by rw [h]; decide)]
theorem sub_yes (a b c : Int) (hc : wrap64 (a - b) = c) (h : (decide (c < a) == decide (0 < b)) = true) : liftF 1 1 1 (subF a b) = (1, c, E, false, sDone) := by
  rw [lift11]; unfold subF inF; rw [hc, if_pos h]
/-- what was added is taken away again -/
theorem back_yes (a b c : Int) (ha : Fit a) (hb : Fit b) (hc : wrap64 (a + b) = c) (h : (decide (a < c) == decide (0 < b)) = true) : liftF 1 1 1 (subF c b) = (1, a, E, false, sDone) := by
  refine sub_yes c b a ?_ h
  unfold Fit at ha hb
  subst hc
  unfold wrap64
  omega
theorem div_zero (a : Int) : liftF 1 1 1 (divF a 0) = (0, 0, E, false, ⟨#[50, 50, 48, 49, 50]⟩) := by rw [lift11]; unfold divF; rw [if_pos rfl]
theorem div_no : liftF 1 1 1 (divF (-9223372036854775808) (-1)) = (0, 0, E, false, sRange) := by decide +kernel
theorem tdiv_fit (a b : Int) (ha : Fit a) (hb : b ≠ 0) (h : a ≠ -9223372036854775808 ∨ b ≠ -1) : Fit (a.tdiv b) := by
  unfold Fit at *
  by_cases h1 : b = 1
  · subst h1; rw [Int.tdiv_one]; exact ha
  by_cases h2 : b = -1
  · subst h2
    have e : a.tdiv (-1) = -a := by rw [Int.tdiv_neg, Int.tdiv_one]
    rw [e]
    omega
  have e : (a.tdiv b).natAbs = a.natAbs / b.natAbs := Int.natAbs_tdiv a b
  have h3 : 2 ≤ b.natAbs := by omega
  have h4 : a.natAbs / b.natAbs ≤ a.natAbs / 2 := Nat.div_le_div_left h3 (by omega)
  omega
theorem div_yes (a b : Int) (ha : Fit a) (hb : b ≠ 0) (h : a ≠ -9223372036854775808 ∨ b ≠ -1) : liftF 1 1 1 (divF a b) = (1, a.tdiv b, E, false, sDone) := by
  have hf := tdiv_fit a b ha hb h
  have e : wrap64 (a.tdiv b) = a.tdiv b := by unfold Fit at hf; unfold wrap64; omega
  rw [lift11]
  unfold divF inF
  rw [if_neg hb, e, if_pos]
  rcases h with h | h
  · simp [h]
  · simp [h]
theorem mulOk_in (a b : Int) (h0 : -9223372036854775808 ≤ a * b) (h1 : a * b ≤ 9223372036854775807) : mulOk a b = true := by
  have e : (a * b).natAbs = a.natAbs * b.natAbs := Int.natAbs_mul a b
  have hs : (decide (a < 0) == decide (b < 0)) = true → 0 ≤ a * b := by
    intro h
    by_cases ha : a < 0
    · by_cases hb : b < 0
      · exact Int.mul_nonneg_of_nonpos_of_nonpos (by omega) (by omega)
      · rw [decide_eq_true ha, decide_eq_false hb] at h; cases h
    · by_cases hb : b < 0
      · rw [decide_eq_false ha, decide_eq_true hb] at h; cases h
      · exact Int.mul_nonneg (by omega) (by omega)
  unfold mulOk
  rw [← e]
  generalize a * b = p at *
  cases hx : (decide (a < 0) == decide (b < 0))
  · rw [Bool.and_eq_true, decide_eq_true_eq, decide_eq_true_eq]
    simp only [Bool.not_false, if_true]
    omega
  · have := hs hx
    rw [Bool.and_eq_true, decide_eq_true_eq, decide_eq_true_eq]
    simp only [Bool.not_true, Bool.false_eq_true, if_false]
    omega
/-- the rest has the number's sign, and is smaller than the divisor -/
theorem rest_ok (a b : Int) (hb : b ≠ 0) : a.tdiv b * b = a - a.tmod b ∧ ((a.tmod b = 0) ∨ (0 < a.tmod b ∧ 0 < a ∧ a.tmod b ≤ a ∧ (a.tmod b < b ∨ b < -a.tmod b)) ∨ (a.tmod b < 0 ∧ a < 0 ∧ a ≤ a.tmod b ∧ (b < a.tmod b ∨ -a.tmod b < b))) := by
  have e := Int.mul_tdiv_add_tmod a b
  have e2 : a.tdiv b * b = b * a.tdiv b := Int.mul_comm _ _
  refine ⟨by omega, ?_⟩
  have h1 : (a.tmod b).natAbs = a.natAbs % b.natAbs := Int.natAbs_tmod a b
  have h2 : a.natAbs % b.natAbs < b.natAbs := Nat.mod_lt _ (by omega)
  have h3 : a.natAbs % b.natAbs ≤ a.natAbs := Nat.mod_le _ _
  by_cases ha : 0 ≤ a
  · have h4 : 0 ≤ a.tmod b := Int.tmod_nonneg b ha
    omega
  · have h4 : 0 ≤ (-a).tmod b := Int.tmod_nonneg b (by omega)
    rw [Int.neg_tmod] at h4
    omega
theorem mul_yes (a b : Int) (ha : Fit a) (hb : b ≠ 0) : liftF 1 1 1 (mulF (a.tdiv b) b) = (1, a - a.tmod b, E, false, sDone) := by
  obtain ⟨e, h⟩ := rest_ok a b hb
  unfold Fit at ha
  rw [lift11]
  unfold mulF inF
  rw [e, mulOk_in _ _ (by omega) (by omega), if_pos rfl]
  have e2 : wrap64 (a - a.tmod b) = a - a.tmod b := by unfold wrap64; omega
  rw [e2]
theorem rest_yes (a b : Int) (ha : Fit a) (hb : b ≠ 0) : liftF 1 1 1 (subF a (a - a.tmod b)) = (1, a.tmod b, E, false, sDone) := by
  obtain ⟨e, h⟩ := rest_ok a b hb
  unfold Fit at ha
  refine sub_yes _ _ _ (by unfold wrap64; omega) ?_
  rw [beq_iff_eq, decide_eq_decide]
  omega
end Vl
end Go.Proofs.YtlmkhpgnkpgbdaaDoor

namespace Go.Proofs.YtlmkhpgnkpgbdaaDoor
open Go.RowKit
set_option linter.unusedVariables false
set_option linter.unusedSimpArgs false
namespace Vl
theorem cell_fr {w : World} {D i : Nat} {cs : Array Value} {t : TypeId} {v : Value} {fr : Nat × Nat} (h : w.heap[D]? = some (.cells cs t fr)) (h4 : cs[i]? = some v) : w.cell? ⟨D, i, none⟩ = some v := by simp [World.cell?, h, h4]
theorem free_fr {w : World} {D i : Nat} {cs : Array Value} {t : TypeId} (h : w.heap[D]? = some (.cells cs t)) : w.frozen? ⟨D, i, none⟩ = false := by simp [World.frozen?, h]
theorem two_boxes (w : World) (a b : Obj) : ((w.alloc a).alloc b).heap[w.heap.size]? = some a ∧ ((w.alloc a).alloc b).heap[w.heap.size + 1]? = some b := by
  have e1 : (w.alloc a).heap.size = w.heap.size + 1 := by simp
  refine ⟨((World.grownBy_alloc (w.alloc a) b none).block _ (by omega) (by simp)).trans (World.alloc_heap_new w a), ?_⟩
  rw [← e1]
  exact World.alloc_heap_new _ b
theorem three_boxes (w : World) (a b c : Obj) : (((w.alloc a).alloc b).alloc c).heap[w.heap.size]? = some a ∧ (((w.alloc a).alloc b).alloc c).heap[w.heap.size + 1]? = some b ∧ (((w.alloc a).alloc b).alloc c).heap[w.heap.size + 1 + 1]? = some c := by
  have e1 : (w.alloc a).heap.size = w.heap.size + 1 := by simp
  have e2 : ((w.alloc a).alloc b).heap.size = w.heap.size + 1 + 1 := by simp
  obtain ⟨h1, h2⟩ := two_boxes w a b
  refine ⟨((World.grownBy_alloc _ c none).block _ (by omega) (by simp)).trans h1, ((World.grownBy_alloc _ c none).block _ (by omega) (by simp)).trans h2, ?_⟩
  rw [← e2]
  exact World.alloc_heap_new _ c
theorem below_three (w : World) (a b c : Obj) : Below w.heap.size w (((w.alloc a).alloc b).alloc c) := ((((Below.refl w.heap.size w).alloc (Nat.le_refl _) a).alloc (by simp) b).alloc (by simp <;> omega) c)
theorem lt_hp {w : World} {k : Nat} {o : Obj} (h : w.heap[k]? = some o) : k < w.heap.size := (Array.getElem?_eq_some_iff.1 h).1
/-- a box of the result, over a call -/
theorem opened1 {w w1 : World} {C : Nat} {x0 x1 : Int} {x2 : ByteArray} {x3 : Bool} (hc : w.heap[C]? = some (.cells #[.int .i64 x0, .int .i64 x1, .string x2, .bool x3] 28)) (hb : Below w.heap.size w w1) :
    w1.frozen? ⟨C, 0, none⟩ = false ∧ w1.frozen? ⟨C, 1, none⟩ = false ∧ w1.frozen? ⟨C, 2, none⟩ = false ∧ w1.frozen? ⟨C, 3, none⟩ = false ∧ w1.cell? ⟨C, 0, none⟩ = some (.int .i64 x0) ∧ w1.cell? ⟨C, 1, none⟩ = some (.int .i64 x1) ∧ w1.cell? ⟨C, 2, none⟩ = some (.string x2) ∧ w1.cell? ⟨C, 3, none⟩ = some (.bool x3) := by
  have h := (hb.block C (lt_hp hc)).trans hc
  exact ⟨free_fr h, free_fr h, free_fr h, free_fr h, cell_fr h rfl, cell_fr h rfl, cell_fr h rfl, cell_fr h rfl⟩
/-- what the boxes of two values and of the result hold behind a call: the numbers -/
theorem opened {w w1 : World} {A B C : Nat} {k1 n1 k2 n2 : Int} {s1 s2 : ByteArray} {b1 b2 : Bool} (ha : w.heap[A]? = some (.cells #[.int .i64 k1, .int .i64 n1, .string s1, .bool b1] 28)) (hbx : w.heap[B]? = some (.cells #[.int .i64 k2, .int .i64 n2, .string s2, .bool b2] 28)) (hc : w.heap[C]? = some (.cells #[.int .i64 0, .int .i64 0, .string ⟨#[]⟩, .bool false] 28)) (hb : Below w.heap.size w w1) :
    w1.cell? ⟨A, 1, none⟩ = some (.int .i64 n1) ∧ w1.cell? ⟨B, 1, none⟩ = some (.int .i64 n2) ∧ w1.heap[C]? = some (.cells #[.int .i64 0, .int .i64 0, .string ⟨#[]⟩, .bool false] 28) ∧ w1.frozen? ⟨C, 0, none⟩ = false ∧ w1.frozen? ⟨C, 1, none⟩ = false ∧ w1.frozen? ⟨C, 2, none⟩ = false ∧ w1.frozen? ⟨C, 3, none⟩ = false ∧ w1.cell? ⟨C, 0, none⟩ = some (.int .i64 0) ∧ w1.cell? ⟨C, 1, none⟩ = some (.int .i64 0) ∧ w1.cell? ⟨C, 2, none⟩ = some (.string ⟨#[]⟩) ∧ w1.cell? ⟨C, 3, none⟩ = some (.bool false) :=
  ⟨cell_fr ((hb.block A (lt_hp ha)).trans ha) rfl, cell_fr ((hb.block B (lt_hp hbx)).trans hbx) rfl, (hb.block C (lt_hp hc)).trans hc, opened1 hc hb⟩
theorem set_four {w w1 : World} (h : Below w.heap.size w w1) (v0 v1 v2 v3 : Value) : Below w.heap.size w ((((w1.setCell ⟨w.heap.size + 1 + 1, 0, none⟩ v0).setCell ⟨w.heap.size + 1 + 1, 1, none⟩ v1).setCell ⟨w.heap.size + 1 + 1, 2, none⟩ v2).setCell ⟨w.heap.size + 1 + 1, 3, none⟩ v3) :=
  (((h.setCell (p := ⟨w.heap.size + 1 + 1, 0, none⟩) (by simp <;> omega) _).setCell (p := ⟨w.heap.size + 1 + 1, 1, none⟩) (by simp <;> omega) _).setCell (p := ⟨w.heap.size + 1 + 1, 2, none⟩) (by simp <;> omega) _).setCell (p := ⟨w.heap.size + 1 + 1, 3, none⟩) (by simp <;> omega) _
theorem num30 (n : Int) (w : World) : Calls Tryd.prog 30 #[.int .i64 n] w fun e w' => e = .returned (.agg #[.int .i64 1, .int .i64 n, .string E, .bool false]) ∧ Below w.heap.size w w' := by
  go_enter Tryd.func30, Tryd.ntmps30
  go_wp2
  exact bodyPost_ret (v := .agg #[.int .i64 1, .int .i64 n, .string ⟨#[]⟩, .bool false]) (by simp [results, Tryd.results30, go_sem]) rfl ⟨rfl, (Below.refl _ _).alloc (Nat.le_refl _) _⟩
def bothF (k1 k2 k : Int) : ByteArray × Bool := if (k1 ≠ 0 ∧ k1 ≠ k) ∨ (k2 ≠ 0 ∧ k2 ≠ k) then (sMis, true) else (sDone, (k1 == 0) || (k2 == 0))
theorem below_two (w : World) (a b : Obj) : Below w.heap.size w ((w.alloc a).alloc b) := ((Below.refl w.heap.size w).alloc (Nat.le_refl _) a).alloc (by simp) b
theorem below_drewM {B : Nat} {w w1 : World} (h : Below B w w1) (n : Nat) : Below B w (w1.drewN n) := ⟨h.os, h.tape, h.output, h.size, h.block⟩
theorem both_m1 (k1 n1 : Int) (s1 : ByteArray) (b1 : Bool) (k2 n2 : Int) (s2 : ByteArray) (b2 : Bool) (k : Int) (w : World) (t1 : (k1 == 0) = false) (t2 : (k1 == k) = false) : Calls Tryd.prog 66 #[.agg #[.int .i64 k1, .int .i64 n1, .string s1, .bool b1], .agg #[.int .i64 k2, .int .i64 n2, .string s2, .bool b2], .int .i64 k] w fun e w' => e = .returned (.tuple #[.string sMis, .bool true]) ∧ Below w.heap.size w w' := by
  have t1n : (k1 != 0) = true := by rw [bne, t1]; rfl
  have t2n : (k1 != k) = true := by rw [bne, t2]; rfl
  go_enter Tryd.func66, Tryd.ntmps66
  go_wp2_with fail
  go_ret2
  exact ⟨rfl, below_two _ _ _⟩
theorem both_m2 (k1 n1 : Int) (s1 : ByteArray) (b1 : Bool) (k2 n2 : Int) (s2 : ByteArray) (b2 : Bool) (k : Int) (w : World) (t1 : (k1 == 0) = true) (t3 : (k2 == 0) = false) (t4 : (k2 == k) = false) : Calls Tryd.prog 66 #[.agg #[.int .i64 k1, .int .i64 n1, .string s1, .bool b1], .agg #[.int .i64 k2, .int .i64 n2, .string s2, .bool b2], .int .i64 k] w fun e w' => e = .returned (.tuple #[.string sMis, .bool true]) ∧ Below w.heap.size w w' := by
  have t1n : (k1 != 0) = false := by rw [bne, t1]; rfl
  have t3n : (k2 != 0) = true := by rw [bne, t3]; rfl
  have t4n : (k2 != k) = true := by rw [bne, t4]; rfl
  go_enter Tryd.func66, Tryd.ntmps66
  go_wp2_with fail
  go_ret2
  exact ⟨rfl, below_two _ _ _⟩
theorem both_m3 (k1 n1 : Int) (s1 : ByteArray) (b1 : Bool) (k2 n2 : Int) (s2 : ByteArray) (b2 : Bool) (k : Int) (w : World) (t1 : (k1 == 0) = false) (t2 : (k1 == k) = true) (t3 : (k2 == 0) = false) (t4 : (k2 == k) = false) : Calls Tryd.prog 66 #[.agg #[.int .i64 k1, .int .i64 n1, .string s1, .bool b1], .agg #[.int .i64 k2, .int .i64 n2, .string s2, .bool b2], .int .i64 k] w fun e w' => e = .returned (.tuple #[.string sMis, .bool true]) ∧ Below w.heap.size w w' := by
  have t1n : (k1 != 0) = true := by rw [bne, t1]; rfl
  have t2n : (k1 != k) = false := by rw [bne, t2]; rfl
  have t3n : (k2 != 0) = true := by rw [bne, t3]; rfl
  have t4n : (k2 != k) = true := by rw [bne, t4]; rfl
  go_enter Tryd.func66, Tryd.ntmps66
  go_wp2_with fail
  go_ret2
  exact ⟨rfl, below_two _ _ _⟩
theorem both_d1 (k1 n1 : Int) (s1 : ByteArray) (b1 : Bool) (k2 n2 : Int) (s2 : ByteArray) (b2 : Bool) (k : Int) (w : World) (t1 : (k1 == 0) = true) (t3 : (k2 == 0) = true) : Calls Tryd.prog 66 #[.agg #[.int .i64 k1, .int .i64 n1, .string s1, .bool b1], .agg #[.int .i64 k2, .int .i64 n2, .string s2, .bool b2], .int .i64 k] w fun e w' => e = .returned (.tuple #[.string sDone, .bool true]) ∧ Below w.heap.size w w' := by
  have t1n : (k1 != 0) = false := by rw [bne, t1]; rfl
  have t3n : (k2 != 0) = false := by rw [bne, t3]; rfl
  go_enter Tryd.func66, Tryd.ntmps66
  go_wp2_with fail
  go_quiet (fail)
  go_wp2_with fail
  go_ret2
  exact ⟨rfl, below_drewM (below_two _ _ _) _⟩
theorem both_d2 (k1 n1 : Int) (s1 : ByteArray) (b1 : Bool) (k2 n2 : Int) (s2 : ByteArray) (b2 : Bool) (k : Int) (w : World) (t1 : (k1 == 0) = true) (t3 : (k2 == 0) = false) (t4 : (k2 == k) = true) : Calls Tryd.prog 66 #[.agg #[.int .i64 k1, .int .i64 n1, .string s1, .bool b1], .agg #[.int .i64 k2, .int .i64 n2, .string s2, .bool b2], .int .i64 k] w fun e w' => e = .returned (.tuple #[.string sDone, .bool true]) ∧ Below w.heap.size w w' := by
  have t1n : (k1 != 0) = false := by rw [bne, t1]; rfl
  have t3n : (k2 != 0) = true := by rw [bne, t3]; rfl
  have t4n : (k2 != k) = false := by rw [bne, t4]; rfl
  go_enter Tryd.func66, Tryd.ntmps66
  go_wp2_with fail
  go_quiet (fail)
  go_wp2_with fail
  go_ret2
  exact ⟨rfl, below_drewM (below_two _ _ _) _⟩
theorem both_d3 (k1 n1 : Int) (s1 : ByteArray) (b1 : Bool) (k2 n2 : Int) (s2 : ByteArray) (b2 : Bool) (k : Int) (w : World) (t1 : (k1 == 0) = false) (t2 : (k1 == k) = true) (t3 : (k2 == 0) = true) : Calls Tryd.prog 66 #[.agg #[.int .i64 k1, .int .i64 n1, .string s1, .bool b1], .agg #[.int .i64 k2, .int .i64 n2, .string s2, .bool b2], .int .i64 k] w fun e w' => e = .returned (.tuple #[.string sDone, .bool true]) ∧ Below w.heap.size w w' := by
  have t1n : (k1 != 0) = true := by rw [bne, t1]; rfl
  have t2n : (k1 != k) = false := by rw [bne, t2]; rfl
  have t3n : (k2 != 0) = false := by rw [bne, t3]; rfl
  go_enter Tryd.func66, Tryd.ntmps66
  go_wp2_with fail
  go_quiet (fail)
  go_wp2_with fail
  go_ret2
  exact ⟨rfl, below_drewM (below_two _ _ _) _⟩
theorem both_d4 (k1 n1 : Int) (s1 : ByteArray) (b1 : Bool) (k2 n2 : Int) (s2 : ByteArray) (b2 : Bool) (k : Int) (w : World) (t1 : (k1 == 0) = false) (t2 : (k1 == k) = true) (t3 : (k2 == 0) = false) (t4 : (k2 == k) = true) : Calls Tryd.prog 66 #[.agg #[.int .i64 k1, .int .i64 n1, .string s1, .bool b1], .agg #[.int .i64 k2, .int .i64 n2, .string s2, .bool b2], .int .i64 k] w fun e w' => e = .returned (.tuple #[.string sDone, .bool false]) ∧ Below w.heap.size w w' := by
  have t1n : (k1 != 0) = true := by rw [bne, t1]; rfl
  have t2n : (k1 != k) = false := by rw [bne, t2]; rfl
  have t3n : (k2 != 0) = true := by rw [bne, t3]; rfl
  have t4n : (k2 != k) = false := by rw [bne, t4]; rfl
  go_enter Tryd.func66, Tryd.ntmps66
  go_wp2_with fail
  go_quiet (fail)
  go_wp2_with fail
  go_ret2
  exact ⟨rfl, below_drewM (below_two _ _ _) _⟩
theorem both_any (k1 n1 : Int) (s1 : ByteArray) (b1 : Bool) (k2 n2 : Int) (s2 : ByteArray) (b2 : Bool) (k : Int) (w : World) : Calls Tryd.prog 66 #[.agg #[.int .i64 k1, .int .i64 n1, .string s1, .bool b1], .agg #[.int .i64 k2, .int .i64 n2, .string s2, .bool b2], .int .i64 k] w fun e w' => e = .returned (.tuple #[.string (bothF k1 k2 k).1, .bool (bothF k1 k2 k).2]) ∧ Below w.heap.size w w' := by
  unfold bothF
  by_cases h1 : k1 = 0
  · have t1 : (k1 == 0) = true := beq_iff_eq.2 h1
    by_cases h3 : k2 = 0
    · rw [if_neg (by omega), t1]
      exact both_d1 _ _ _ _ _ _ _ _ k w t1 (beq_iff_eq.2 h3)
    · have t3 : (k2 == 0) = false := beq_false_of_ne h3
      by_cases h4 : k2 = k
      · rw [if_neg (by omega), t1]
        exact both_d2 _ _ _ _ _ _ _ _ k w t1 t3 (beq_iff_eq.2 h4)
      · rw [if_pos (by omega)]
        exact both_m2 _ _ _ _ _ _ _ _ k w t1 t3 (beq_false_of_ne h4)
  · have t1 : (k1 == 0) = false := beq_false_of_ne h1
    by_cases h2 : k1 = k
    · have t2 : (k1 == k) = true := beq_iff_eq.2 h2
      by_cases h3 : k2 = 0
      · rw [if_neg (by omega), t1, beq_iff_eq.2 h3]
        exact both_d3 _ _ _ _ _ _ _ _ k w t1 t2 (beq_iff_eq.2 h3)
      · have t3 : (k2 == 0) = false := beq_false_of_ne h3
        by_cases h4 : k2 = k
        · rw [if_neg (by omega), t1, t3]
          exact both_d4 _ _ _ _ _ _ _ _ k w t1 t2 t3 (beq_iff_eq.2 h4)
        · rw [if_pos (by omega)]
          exact both_m3 _ _ _ _ _ _ _ _ k w t1 t2 t3 (beq_false_of_ne h4)
    · rw [if_pos (by omega)]
      exact both_m1 _ _ _ _ _ _ _ _ k w t1 (beq_false_of_ne h2)
def RetR (r : R5) (e : Ending) : Prop := e = .returned (.tuple #[.agg #[.int .i64 r.1, .int .i64 r.2.1, .string r.2.2.1, .bool r.2.2.2.1], .string r.2.2.2.2])
set_option maxHeartbeats 1000000 in
set_option maxRecDepth 100000 in
theorem addR_known (k1 n1 : Int) (s1 : ByteArray) (b1 : Bool) (k2 n2 : Int) (s2 : ByteArray) (b2 : Bool) (st : ByteArray) (w : World) (CB : Hid (∀ w, Calls Tryd.prog 66 #[.agg #[.int .i64 k1, .int .i64 n1, .string s1, .bool b1], .agg #[.int .i64 k2, .int .i64 n2, .string s2, .bool b2], .int .i64 1] w fun e w' => e = .returned (.tuple #[.string st, .bool true]) ∧ Below w.heap.size w w')) : Calls Tryd.prog 36 #[.agg #[.int .i64 k1, .int .i64 n1, .string s1, .bool b1], .agg #[.int .i64 k2, .int .i64 n2, .string s2, .bool b2]] w fun e w' => e = .returned (.tuple #[.agg #[.int .i64 0, .int .i64 0, .string E, .bool false], .string st]) ∧ Below w.heap.size w w' := by
  obtain ⟨S0, S1, S2⟩ := three_boxes w (.cells #[.int .i64 k1, .int .i64 n1, .string s1, .bool b1] 28) (.cells #[.int .i64 k2, .int .i64 n2, .string s2, .bool b2] 28) (.cells #[.int .i64 0, .int .i64 0, .string ⟨#[]⟩, .bool false] 28)
  have S := Lib.hid (And.intro S0 (And.intro S1 S2))
  have SB := Lib.hid (below_three w (.cells #[.int .i64 k1, .int .i64 n1, .string s1, .bool b1] 28) (.cells #[.int .i64 k2, .int .i64 n2, .string s2, .bool b2] 28) (.cells #[.int .i64 0, .int .i64 0, .string ⟨#[]⟩, .bool false] 28))
  clear S0 S1 S2
  go_enter Tryd.func36, Tryd.ntmps36
  go_wp2_with fail
  refine (CB.out _).mono ?_
  rintro e w1 ⟨rfl, hb⟩
  have HB1 := Lib.hid (SB.out.trans (hb.mono SB.out.size))
  obtain ⟨a1, a2, a3, f0, f1, f2, f3, z0, z1, z2, z3⟩ := opened S.out.1 S.out.2.1 S.out.2.2 hb
  have A3 := Lib.hid a3
  clear hb a3
  go_wp2_with fail
  exact bodyPost_ret (v := .tuple #[.agg #[.int .i64 0, .int .i64 0, .string E, .bool false], .string st]) (by simp [results, Tryd.results36, go_sem, z0, z1, z2, z3]) rfl ⟨rfl, set_four (HB1.out) _ _ _ _⟩
set_option maxHeartbeats 1000000 in
set_option maxRecDepth 100000 in
theorem addR_ppp (k1 n1 : Int) (s1 : ByteArray) (b1 : Bool) (k2 n2 : Int) (s2 : ByteArray) (b2 : Bool) (c : Int) (w : World) (CB : Hid (∀ w, Calls Tryd.prog 66 #[.agg #[.int .i64 k1, .int .i64 n1, .string s1, .bool b1], .agg #[.int .i64 k2, .int .i64 n2, .string s2, .bool b2], .int .i64 1] w fun e w' => e = .returned (.tuple #[.string sDone, .bool false]) ∧ Below w.heap.size w w')) (hc : wrap64 (n1 + n2) = c) (x0 : decide (0 ≤ n1) = true) (x1 : decide (n1 < 0) = false) (y0' : decide (0 ≤ n2) = true) (y1' : decide (n2 < 0) = false) (z0' : decide (0 ≤ c) = true) (z1' : decide (c < 0) = false) : Calls Tryd.prog 36 #[.agg #[.int .i64 k1, .int .i64 n1, .string s1, .bool b1], .agg #[.int .i64 k2, .int .i64 n2, .string s2, .bool b2]] w fun e w' => e = .returned (.tuple #[.agg #[.int .i64 1, .int .i64 c, .string E, .bool false], .string sDone]) ∧ Below w.heap.size w w' := by
  obtain ⟨S0, S1, S2⟩ := three_boxes w (.cells #[.int .i64 k1, .int .i64 n1, .string s1, .bool b1] 28) (.cells #[.int .i64 k2, .int .i64 n2, .string s2, .bool b2] 28) (.cells #[.int .i64 0, .int .i64 0, .string ⟨#[]⟩, .bool false] 28)
  have S := Lib.hid (And.intro S0 (And.intro S1 S2))
  have SB := Lib.hid (below_three w (.cells #[.int .i64 k1, .int .i64 n1, .string s1, .bool b1] 28) (.cells #[.int .i64 k2, .int .i64 n2, .string s2, .bool b2] 28) (.cells #[.int .i64 0, .int .i64 0, .string ⟨#[]⟩, .bool false] 28))
  clear S0 S1 S2
  go_enter Tryd.func36, Tryd.ntmps36
  go_wp2_with fail
  refine (CB.out _).mono ?_
  rintro e w1 ⟨rfl, hb⟩
  have HB1 := Lib.hid (SB.out.trans (hb.mono SB.out.size))
  obtain ⟨a1, a2, a3, f0, f1, f2, f3, z0, z1, z2, z3⟩ := opened S.out.1 S.out.2.1 S.out.2.2 hb
  have A3 := Lib.hid a3
  clear hb a3
  go_wp2_with fail
  refine (num30 c _).mono ?_
  rintro e w2 ⟨rfl, hb2⟩
  have HB2 := Lib.hid ((HB1.out).trans (hb2.mono HB1.out.size))
  obtain ⟨g0, g1, g2, g3, y0, y1, y2, y3⟩ := opened1 A3.out hb2
  clear hb2 f0 f1 f2 f3 z0 z1 z2 z3
  go_wp2_with fail
  exact bodyPost_ret (v := .tuple #[.agg #[.int .i64 1, .int .i64 c, .string E, .bool false], .string sDone]) (by simp [results, Tryd.results36, go_sem, y0, y1, y2, y3]) rfl ⟨rfl, set_four (HB2.out) _ _ _ _⟩
set_option maxHeartbeats 1000000 in
set_option maxRecDepth 100000 in
theorem addR_ppm (k1 n1 : Int) (s1 : ByteArray) (b1 : Bool) (k2 n2 : Int) (s2 : ByteArray) (b2 : Bool) (c : Int) (w : World) (CB : Hid (∀ w, Calls Tryd.prog 66 #[.agg #[.int .i64 k1, .int .i64 n1, .string s1, .bool b1], .agg #[.int .i64 k2, .int .i64 n2, .string s2, .bool b2], .int .i64 1] w fun e w' => e = .returned (.tuple #[.string sDone, .bool false]) ∧ Below w.heap.size w w')) (hc : wrap64 (n1 + n2) = c) (x0 : decide (0 ≤ n1) = true) (x1 : decide (n1 < 0) = false) (y0' : decide (0 ≤ n2) = true) (y1' : decide (n2 < 0) = false) (z0' : decide (0 ≤ c) = false) (z1' : decide (c < 0) = true) : Calls Tryd.prog 36 #[.agg #[.int .i64 k1, .int .i64 n1, .string s1, .bool b1], .agg #[.int .i64 k2, .int .i64 n2, .string s2, .bool b2]] w fun e w' => e = .returned (.tuple #[.agg #[.int .i64 0, .int .i64 0, .string E, .bool false], .string sRange]) ∧ Below w.heap.size w w' := by
  obtain ⟨S0, S1, S2⟩ := three_boxes w (.cells #[.int .i64 k1, .int .i64 n1, .string s1, .bool b1] 28) (.cells #[.int .i64 k2, .int .i64 n2, .string s2, .bool b2] 28) (.cells #[.int .i64 0, .int .i64 0, .string ⟨#[]⟩, .bool false] 28)
  have S := Lib.hid (And.intro S0 (And.intro S1 S2))
  have SB := Lib.hid (below_three w (.cells #[.int .i64 k1, .int .i64 n1, .string s1, .bool b1] 28) (.cells #[.int .i64 k2, .int .i64 n2, .string s2, .bool b2] 28) (.cells #[.int .i64 0, .int .i64 0, .string ⟨#[]⟩, .bool false] 28))
  clear S0 S1 S2
  go_enter Tryd.func36, Tryd.ntmps36
  go_wp2_with fail
  refine (CB.out _).mono ?_
  rintro e w1 ⟨rfl, hb⟩
  have HB1 := Lib.hid (SB.out.trans (hb.mono SB.out.size))
  obtain ⟨a1, a2, a3, f0, f1, f2, f3, z0, z1, z2, z3⟩ := opened S.out.1 S.out.2.1 S.out.2.2 hb
  have A3 := Lib.hid a3
  clear hb a3
  go_wp2_with fail
  exact bodyPost_ret (v := .tuple #[.agg #[.int .i64 0, .int .i64 0, .string E, .bool false], .string sRange]) (by simp [results, Tryd.results36, go_sem, z0, z1, z2, z3]) rfl ⟨rfl, set_four (HB1.out) _ _ _ _⟩
set_option maxHeartbeats 1000000 in
set_option maxRecDepth 100000 in
theorem addR_pmp (k1 n1 : Int) (s1 : ByteArray) (b1 : Bool) (k2 n2 : Int) (s2 : ByteArray) (b2 : Bool) (c : Int) (w : World) (CB : Hid (∀ w, Calls Tryd.prog 66 #[.agg #[.int .i64 k1, .int .i64 n1, .string s1, .bool b1], .agg #[.int .i64 k2, .int .i64 n2, .string s2, .bool b2], .int .i64 1] w fun e w' => e = .returned (.tuple #[.string sDone, .bool false]) ∧ Below w.heap.size w w')) (hc : wrap64 (n1 + n2) = c) (x0 : decide (0 ≤ n1) = true) (x1 : decide (n1 < 0) = false) (y0' : decide (0 ≤ n2) = false) (y1' : decide (n2 < 0) = true) (z0' : decide (0 ≤ c) = true) (z1' : decide (c < 0) = false) : Calls Tryd.prog 36 #[.agg #[.int .i64 k1, .int .i64 n1, .string s1, .bool b1], .agg #[.int .i64 k2, .int .i64 n2, .string s2, .bool b2]] w fun e w' => e = .returned (.tuple #[.agg #[.int .i64 1, .int .i64 c, .string E, .bool false], .string sDone]) ∧ Below w.heap.size w w' := by
  obtain ⟨S0, S1, S2⟩ := three_boxes w (.cells #[.int .i64 k1, .int .i64 n1, .string s1, .bool b1] 28) (.cells #[.int .i64 k2, .int .i64 n2, .string s2, .bool b2] 28) (.cells #[.int .i64 0, .int .i64 0, .string ⟨#[]⟩, .bool false] 28)
  have S := Lib.hid (And.intro S0 (And.intro S1 S2))
  have SB := Lib.hid (below_three w (.cells #[.int .i64 k1, .int .i64 n1, .string s1, .bool b1] 28) (.cells #[.int .i64 k2, .int .i64 n2, .string s2, .bool b2] 28) (.cells #[.int .i64 0, .int .i64 0, .string ⟨#[]⟩, .bool false] 28))
  clear S0 S1 S2
  go_enter Tryd.func36, Tryd.ntmps36
  go_wp2_with fail
  refine (CB.out _).mono ?_
  rintro e w1 ⟨rfl, hb⟩
  have HB1 := Lib.hid (SB.out.trans (hb.mono SB.out.size))
  obtain ⟨a1, a2, a3, f0, f1, f2, f3, z0, z1, z2, z3⟩ := opened S.out.1 S.out.2.1 S.out.2.2 hb
  have A3 := Lib.hid a3
  clear hb a3
  go_wp2_with fail
  refine (num30 c _).mono ?_
  rintro e w2 ⟨rfl, hb2⟩
  have HB2 := Lib.hid ((HB1.out).trans (hb2.mono HB1.out.size))
  obtain ⟨g0, g1, g2, g3, y0, y1, y2, y3⟩ := opened1 A3.out hb2
  clear hb2 f0 f1 f2 f3 z0 z1 z2 z3
  go_wp2_with fail
  exact bodyPost_ret (v := .tuple #[.agg #[.int .i64 1, .int .i64 c, .string E, .bool false], .string sDone]) (by simp [results, Tryd.results36, go_sem, y0, y1, y2, y3]) rfl ⟨rfl, set_four (HB2.out) _ _ _ _⟩
set_option maxHeartbeats 1000000 in
set_option maxRecDepth 100000 in
theorem addR_pmm (k1 n1 : Int) (s1 : ByteArray) (b1 : Bool) (k2 n2 : Int) (s2 : ByteArray) (b2 : Bool) (c : Int) (w : World) (CB : Hid (∀ w, Calls Tryd.prog 66 #[.agg #[.int .i64 k1, .int .i64 n1, .string s1, .bool b1], .agg #[.int .i64 k2, .int .i64 n2, .string s2, .bool b2], .int .i64 1] w fun e w' => e = .returned (.tuple #[.string sDone, .bool false]) ∧ Below w.heap.size w w')) (hc : wrap64 (n1 + n2) = c) (x0 : decide (0 ≤ n1) = true) (x1 : decide (n1 < 0) = false) (y0' : decide (0 ≤ n2) = false) (y1' : decide (n2 < 0) = true) (z0' : decide (0 ≤ c) = false) (z1' : decide (c < 0) = true) : Calls Tryd.prog 36 #[.agg #[.int .i64 k1, .int .i64 n1, .string s1, .bool b1], .agg #[.int .i64 k2, .int .i64 n2, .string s2, .bool b2]] w fun e w' => e = .returned (.tuple #[.agg #[.int .i64 1, .int .i64 c, .string E, .bool false], .string sDone]) ∧ Below w.heap.size w w' := by
  obtain ⟨S0, S1, S2⟩ := three_boxes w (.cells #[.int .i64 k1, .int .i64 n1, .string s1, .bool b1] 28) (.cells #[.int .i64 k2, .int .i64 n2, .string s2, .bool b2] 28) (.cells #[.int .i64 0, .int .i64 0, .string ⟨#[]⟩, .bool false] 28)
  have S := Lib.hid (And.intro S0 (And.intro S1 S2))
  have SB := Lib.hid (below_three w (.cells #[.int .i64 k1, .int .i64 n1, .string s1, .bool b1] 28) (.cells #[.int .i64 k2, .int .i64 n2, .string s2, .bool b2] 28) (.cells #[.int .i64 0, .int .i64 0, .string ⟨#[]⟩, .bool false] 28))
  clear S0 S1 S2
  go_enter Tryd.func36, Tryd.ntmps36
  go_wp2_with fail
  refine (CB.out _).mono ?_
  rintro e w1 ⟨rfl, hb⟩
  have HB1 := Lib.hid (SB.out.trans (hb.mono SB.out.size))
  obtain ⟨a1, a2, a3, f0, f1, f2, f3, z0, z1, z2, z3⟩ := opened S.out.1 S.out.2.1 S.out.2.2 hb
  have A3 := Lib.hid a3
  clear hb a3
  go_wp2_with fail
  refine (num30 c _).mono ?_
  rintro e w2 ⟨rfl, hb2⟩
  have HB2 := Lib.hid ((HB1.out).trans (hb2.mono HB1.out.size))
  obtain ⟨g0, g1, g2, g3, y0, y1, y2, y3⟩ := opened1 A3.out hb2
  clear hb2 f0 f1 f2 f3 z0 z1 z2 z3
  go_wp2_with fail
  exact bodyPost_ret (v := .tuple #[.agg #[.int .i64 1, .int .i64 c, .string E, .bool false], .string sDone]) (by simp [results, Tryd.results36, go_sem, y0, y1, y2, y3]) rfl ⟨rfl, set_four (HB2.out) _ _ _ _⟩
set_option maxHeartbeats 1000000 in
set_option maxRecDepth 100000 in
theorem addR_mpp (k1 n1 : Int) (s1 : ByteArray) (b1 : Bool) (k2 n2 : Int) (s2 : ByteArray) (b2 : Bool) (c : Int) (w : World) (CB : Hid (∀ w, Calls Tryd.prog 66 #[.agg #[.int .i64 k1, .int .i64 n1, .string s1, .bool b1], .agg #[.int .i64 k2, .int .i64 n2, .string s2, .bool b2], .int .i64 1] w fun e w' => e = .returned (.tuple #[.string sDone, .bool false]) ∧ Below w.heap.size w w')) (hc : wrap64 (n1 + n2) = c) (x0 : decide (0 ≤ n1) = false) (x1 : decide (n1 < 0) = true) (y0' : decide (0 ≤ n2) = true) (y1' : decide (n2 < 0) = false) (z0' : decide (0 ≤ c) = true) (z1' : decide (c < 0) = false) : Calls Tryd.prog 36 #[.agg #[.int .i64 k1, .int .i64 n1, .string s1, .bool b1], .agg #[.int .i64 k2, .int .i64 n2, .string s2, .bool b2]] w fun e w' => e = .returned (.tuple #[.agg #[.int .i64 1, .int .i64 c, .string E, .bool false], .string sDone]) ∧ Below w.heap.size w w' := by
  obtain ⟨S0, S1, S2⟩ := three_boxes w (.cells #[.int .i64 k1, .int .i64 n1, .string s1, .bool b1] 28) (.cells #[.int .i64 k2, .int .i64 n2, .string s2, .bool b2] 28) (.cells #[.int .i64 0, .int .i64 0, .string ⟨#[]⟩, .bool false] 28)
  have S := Lib.hid (And.intro S0 (And.intro S1 S2))
  have SB := Lib.hid (below_three w (.cells #[.int .i64 k1, .int .i64 n1, .string s1, .bool b1] 28) (.cells #[.int .i64 k2, .int .i64 n2, .string s2, .bool b2] 28) (.cells #[.int .i64 0, .int .i64 0, .string ⟨#[]⟩, .bool false] 28))
  clear S0 S1 S2
  go_enter Tryd.func36, Tryd.ntmps36
  go_wp2_with fail
  refine (CB.out _).mono ?_
  rintro e w1 ⟨rfl, hb⟩
  have HB1 := Lib.hid (SB.out.trans (hb.mono SB.out.size))
  obtain ⟨a1, a2, a3, f0, f1, f2, f3, z0, z1, z2, z3⟩ := opened S.out.1 S.out.2.1 S.out.2.2 hb
  have A3 := Lib.hid a3
  clear hb a3
  go_wp2_with fail
  refine (num30 c _).mono ?_
  rintro e w2 ⟨rfl, hb2⟩
  have HB2 := Lib.hid ((HB1.out).trans (hb2.mono HB1.out.size))
  obtain ⟨g0, g1, g2, g3, y0, y1, y2, y3⟩ := opened1 A3.out hb2
  clear hb2 f0 f1 f2 f3 z0 z1 z2 z3
  go_wp2_with fail
  exact bodyPost_ret (v := .tuple #[.agg #[.int .i64 1, .int .i64 c, .string E, .bool false], .string sDone]) (by simp [results, Tryd.results36, go_sem, y0, y1, y2, y3]) rfl ⟨rfl, set_four (HB2.out) _ _ _ _⟩
set_option maxHeartbeats 1000000 in
set_option maxRecDepth 100000 in
theorem addR_mpm (k1 n1 : Int) (s1 : ByteArray) (b1 : Bool) (k2 n2 : Int) (s2 : ByteArray) (b2 : Bool) (c : Int) (w : World) (CB : Hid (∀ w, Calls Tryd.prog 66 #[.agg #[.int .i64 k1, .int .i64 n1, .string s1, .bool b1], .agg #[.int .i64 k2, .int .i64 n2, .string s2, .bool b2], .int .i64 1] w fun e w' => e = .returned (.tuple #[.string sDone, .bool false]) ∧ Below w.heap.size w w')) (hc : wrap64 (n1 + n2) = c) (x0 : decide (0 ≤ n1) = false) (x1 : decide (n1 < 0) = true) (y0' : decide (0 ≤ n2) = true) (y1' : decide (n2 < 0) = false) (z0' : decide (0 ≤ c) = false) (z1' : decide (c < 0) = true) : Calls Tryd.prog 36 #[.agg #[.int .i64 k1, .int .i64 n1, .string s1, .bool b1], .agg #[.int .i64 k2, .int .i64 n2, .string s2, .bool b2]] w fun e w' => e = .returned (.tuple #[.agg #[.int .i64 1, .int .i64 c, .string E, .bool false], .string sDone]) ∧ Below w.heap.size w w' := by
  obtain ⟨S0, S1, S2⟩ := three_boxes w (.cells #[.int .i64 k1, .int .i64 n1, .string s1, .bool b1] 28) (.cells #[.int .i64 k2, .int .i64 n2, .string s2, .bool b2] 28) (.cells #[.int .i64 0, .int .i64 0, .string ⟨#[]⟩, .bool false] 28)
  have S := Lib.hid (And.intro S0 (And.intro S1 S2))
  have SB := Lib.hid (below_three w (.cells #[.int .i64 k1, .int .i64 n1, .string s1, .bool b1] 28) (.cells #[.int .i64 k2, .int .i64 n2, .string s2, .bool b2] 28) (.cells #[.int .i64 0, .int .i64 0, .string ⟨#[]⟩, .bool false] 28))
  clear S0 S1 S2
  go_enter Tryd.func36, Tryd.ntmps36
  go_wp2_with fail
  refine (CB.out _).mono ?_
  rintro e w1 ⟨rfl, hb⟩
  have HB1 := Lib.hid (SB.out.trans (hb.mono SB.out.size))
  obtain ⟨a1, a2, a3, f0, f1, f2, f3, z0, z1, z2, z3⟩ := opened S.out.1 S.out.2.1 S.out.2.2 hb
  have A3 := Lib.hid a3
  clear hb a3
  go_wp2_with fail
  refine (num30 c _).mono ?_
  rintro e w2 ⟨rfl, hb2⟩
  have HB2 := Lib.hid ((HB1.out).trans (hb2.mono HB1.out.size))
  obtain ⟨g0, g1, g2, g3, y0, y1, y2, y3⟩ := opened1 A3.out hb2
  clear hb2 f0 f1 f2 f3 z0 z1 z2 z3
  go_wp2_with fail
  exact bodyPost_ret (v := .tuple #[.agg #[.int .i64 1, .int .i64 c, .string E, .bool false], .string sDone]) (by simp [results, Tryd.results36, go_sem, y0, y1, y2, y3]) rfl ⟨rfl, set_four (HB2.out) _ _ _ _⟩
set_option maxHeartbeats 1000000 in
set_option maxRecDepth 100000 in
theorem addR_mmp (k1 n1 : Int) (s1 : ByteArray) (b1 : Bool) (k2 n2 : Int) (s2 : ByteArray) (b2 : Bool) (c : Int) (w : World) (CB : Hid (∀ w, Calls Tryd.prog 66 #[.agg #[.int .i64 k1, .int .i64 n1, .string s1, .bool b1], .agg #[.int .i64 k2, .int .i64 n2, .string s2, .bool b2], .int .i64 1] w fun e w' => e = .returned (.tuple #[.string sDone, .bool false]) ∧ Below w.heap.size w w')) (hc : wrap64 (n1 + n2) = c) (x0 : decide (0 ≤ n1) = false) (x1 : decide (n1 < 0) = true) (y0' : decide (0 ≤ n2) = false) (y1' : decide (n2 < 0) = true) (z0' : decide (0 ≤ c) = true) (z1' : decide (c < 0) = false) : Calls Tryd.prog 36 #[.agg #[.int .i64 k1, .int .i64 n1, .string s1, .bool b1], .agg #[.int .i64 k2, .int .i64 n2, .string s2, .bool b2]] w fun e w' => e = .returned (.tuple #[.agg #[.int .i64 0, .int .i64 0, .string E, .bool false], .string sRange]) ∧ Below w.heap.size w w' := by
  obtain ⟨S0, S1, S2⟩ := three_boxes w (.cells #[.int .i64 k1, .int .i64 n1, .string s1, .bool b1] 28) (.cells #[.int .i64 k2, .int .i64 n2, .string s2, .bool b2] 28) (.cells #[.int .i64 0, .int .i64 0, .string ⟨#[]⟩, .bool false] 28)
  have S := Lib.hid (And.intro S0 (And.intro S1 S2))
  have SB := Lib.hid (below_three w (.cells #[.int .i64 k1, .int .i64 n1, .string s1, .bool b1] 28) (.cells #[.int .i64 k2, .int .i64 n2, .string s2, .bool b2] 28) (.cells #[.int .i64 0, .int .i64 0, .string ⟨#[]⟩, .bool false] 28))
  clear S0 S1 S2
  go_enter Tryd.func36, Tryd.ntmps36
  go_wp2_with fail
  refine (CB.out _).mono ?_
  rintro e w1 ⟨rfl, hb⟩
  have HB1 := Lib.hid (SB.out.trans (hb.mono SB.out.size))
  obtain ⟨a1, a2, a3, f0, f1, f2, f3, z0, z1, z2, z3⟩ := opened S.out.1 S.out.2.1 S.out.2.2 hb
  have A3 := Lib.hid a3
  clear hb a3
  go_wp2_with fail
  exact bodyPost_ret (v := .tuple #[.agg #[.int .i64 0, .int .i64 0, .string E, .bool false], .string sRange]) (by simp [results, Tryd.results36, go_sem, z0, z1, z2, z3]) rfl ⟨rfl, set_four (HB1.out) _ _ _ _⟩
set_option maxHeartbeats 1000000 in
set_option maxRecDepth 100000 in
theorem addR_mmm (k1 n1 : Int) (s1 : ByteArray) (b1 : Bool) (k2 n2 : Int) (s2 : ByteArray) (b2 : Bool) (c : Int) (w : World) (CB : Hid (∀ w, Calls Tryd.prog 66 #[.agg #[.int .i64 k1, .int .i64 n1, .string s1, .bool b1], .agg #[.int .i64 k2, .int .i64 n2, .string s2, .bool b2], .int .i64 1] w fun e w' => e = .returned (.tuple #[.string sDone, .bool false]) ∧ Below w.heap.size w w')) (hc : wrap64 (n1 + n2) = c) (x0 : decide (0 ≤ n1) = false) (x1 : decide (n1 < 0) = true) (y0' : decide (0 ≤ n2) = false) (y1' : decide (n2 < 0) = true) (z0' : decide (0 ≤ c) = false) (z1' : decide (c < 0) = true) : Calls Tryd.prog 36 #[.agg #[.int .i64 k1, .int .i64 n1, .string s1, .bool b1], .agg #[.int .i64 k2, .int .i64 n2, .string s2, .bool b2]] w fun e w' => e = .returned (.tuple #[.agg #[.int .i64 1, .int .i64 c, .string E, .bool false], .string sDone]) ∧ Below w.heap.size w w' := by
  obtain ⟨S0, S1, S2⟩ := three_boxes w (.cells #[.int .i64 k1, .int .i64 n1, .string s1, .bool b1] 28) (.cells #[.int .i64 k2, .int .i64 n2, .string s2, .bool b2] 28) (.cells #[.int .i64 0, .int .i64 0, .string ⟨#[]⟩, .bool false] 28)
  have S := Lib.hid (And.intro S0 (And.intro S1 S2))
  have SB := Lib.hid (below_three w (.cells #[.int .i64 k1, .int .i64 n1, .string s1, .bool b1] 28) (.cells #[.int .i64 k2, .int .i64 n2, .string s2, .bool b2] 28) (.cells #[.int .i64 0, .int .i64 0, .string ⟨#[]⟩, .bool false] 28))
  clear S0 S1 S2
  go_enter Tryd.func36, Tryd.ntmps36
  go_wp2_with fail
  refine (CB.out _).mono ?_
  rintro e w1 ⟨rfl, hb⟩
  have HB1 := Lib.hid (SB.out.trans (hb.mono SB.out.size))
  obtain ⟨a1, a2, a3, f0, f1, f2, f3, z0, z1, z2, z3⟩ := opened S.out.1 S.out.2.1 S.out.2.2 hb
  have A3 := Lib.hid a3
  clear hb a3
  go_wp2_with fail
  refine (num30 c _).mono ?_
  rintro e w2 ⟨rfl, hb2⟩
  have HB2 := Lib.hid ((HB1.out).trans (hb2.mono HB1.out.size))
  obtain ⟨g0, g1, g2, g3, y0, y1, y2, y3⟩ := opened1 A3.out hb2
  clear hb2 f0 f1 f2 f3 z0 z1 z2 z3
  go_wp2_with fail
  exact bodyPost_ret (v := .tuple #[.agg #[.int .i64 1, .int .i64 c, .string E, .bool false], .string sDone]) (by simp [results, Tryd.results36, go_sem, y0, y1, y2, y3]) rfl ⟨rfl, set_four (HB2.out) _ _ _ _⟩
theorem addR_raw (k1 n1 : Int) (s1 : ByteArray) (b1 : Bool) (k2 n2 : Int) (s2 : ByteArray) (b2 : Bool) (w : World) (f1 : Fit n1) (f2 : Fit n2) : Calls Tryd.prog 36 #[.agg #[.int .i64 k1, .int .i64 n1, .string s1, .bool b1], .agg #[.int .i64 k2, .int .i64 n2, .string s2, .bool b2]] w fun e w' => RetR (liftF 1 k1 k2 (addF n1 n2)) e ∧ Below w.heap.size w w' := by
  have hB := fun w => both_any k1 n1 s1 b1 k2 n2 s2 b2 1 w
  unfold bothF at hB
  unfold liftF
  by_cases h1 : (k1 ≠ 0 ∧ k1 ≠ 1) ∨ (k2 ≠ 0 ∧ k2 ≠ 1)
  · rw [if_pos h1]
    rw [if_pos h1] at hB
    exact addR_known _ _ _ _ _ _ _ _ sMis w hB
  rw [if_neg h1]
  rw [if_neg h1] at hB
  by_cases h2 : k1 = 0 ∨ k2 = 0
  · rw [if_pos h2]
    have e : ((k1 == 0) || (k2 == 0)) = true := by rcases h2 with h | h <;> simp [h]
    rw [e] at hB
    exact addR_known _ _ _ _ _ _ _ _ sDone w hB
  rw [if_neg h2]
  have e : ((k1 == 0) || (k2 == 0)) = false := by simp; omega
  rw [e] at hB
  unfold Fit at f1 f2
  obtain ⟨c, hc⟩ : ∃ c, wrap64 (n1 + n2) = c := ⟨_, rfl⟩
  have hcc := hc
  unfold wrap64 at hcc
  have yes : (decide (n1 < c) == decide (0 < n2)) = true → addF n1 n2 = (1, c, E, false, sDone) := fun h => by unfold addF inF; rw [hc, if_pos h]
  have no : (decide (n1 < c) == decide (0 < n2)) = false → addF n1 n2 = nulR sRange := fun h => by unfold addF inF; rw [hc, if_neg (by rw [h]; decide)]
  have bt : ∀ p q : Prop, [Decidable p] → [Decidable q] → (p ↔ q) → (decide p == decide q) = true := fun p q _ _ h => by rw [beq_iff_eq, decide_eq_decide]; exact h
  have bf : ∀ p q : Prop, [Decidable p] → [Decidable q] → ¬ (p ↔ q) → (decide p == decide q) = false := fun p q _ _ h => by rw [beq_eq_false_iff_ne, ne_eq, decide_eq_decide]; exact h
  by_cases q1 : n1 < 0
  · by_cases q2 : n2 < 0
    · by_cases q3 : c < 0
      · rw [yes (bt _ _ (by omega))]
        exact addR_mmm _ _ _ _ _ _ _ _ c w hB hc (decide_eq_false (by omega)) (decide_eq_true (by omega)) (decide_eq_false (by omega)) (decide_eq_true (by omega)) (decide_eq_false (by omega)) (decide_eq_true (by omega))
      · rw [no (bf _ _ (by omega))]
        exact addR_mmp _ _ _ _ _ _ _ _ c w hB hc (decide_eq_false (by omega)) (decide_eq_true (by omega)) (decide_eq_false (by omega)) (decide_eq_true (by omega)) (decide_eq_true (by omega)) (decide_eq_false (by omega))
    · by_cases q3 : c < 0
      · rw [yes (bt _ _ (by omega))]
        exact addR_mpm _ _ _ _ _ _ _ _ c w hB hc (decide_eq_false (by omega)) (decide_eq_true (by omega)) (decide_eq_true (by omega)) (decide_eq_false (by omega)) (decide_eq_false (by omega)) (decide_eq_true (by omega))
      · rw [yes (bt _ _ (by omega))]
        exact addR_mpp _ _ _ _ _ _ _ _ c w hB hc (decide_eq_false (by omega)) (decide_eq_true (by omega)) (decide_eq_true (by omega)) (decide_eq_false (by omega)) (decide_eq_true (by omega)) (decide_eq_false (by omega))
  · by_cases q2 : n2 < 0
    · by_cases q3 : c < 0
      · rw [yes (bt _ _ (by omega))]
        exact addR_pmm _ _ _ _ _ _ _ _ c w hB hc (decide_eq_true (by omega)) (decide_eq_false (by omega)) (decide_eq_false (by omega)) (decide_eq_true (by omega)) (decide_eq_false (by omega)) (decide_eq_true (by omega))
      · rw [yes (bt _ _ (by omega))]
        exact addR_pmp _ _ _ _ _ _ _ _ c w hB hc (decide_eq_true (by omega)) (decide_eq_false (by omega)) (decide_eq_false (by omega)) (decide_eq_true (by omega)) (decide_eq_true (by omega)) (decide_eq_false (by omega))
    · by_cases q3 : c < 0
      · rw [no (bf _ _ (by omega))]
        exact addR_ppm _ _ _ _ _ _ _ _ c w hB hc (decide_eq_true (by omega)) (decide_eq_false (by omega)) (decide_eq_true (by omega)) (decide_eq_false (by omega)) (decide_eq_false (by omega)) (decide_eq_true (by omega))
      · rw [yes (bt _ _ (by omega))]
        exact addR_ppp _ _ _ _ _ _ _ _ c w hB hc (decide_eq_true (by omega)) (decide_eq_false (by omega)) (decide_eq_true (by omega)) (decide_eq_false (by omega)) (decide_eq_true (by omega)) (decide_eq_false (by omega))
set_option maxHeartbeats 1000000 in
set_option maxRecDepth 100000 in
theorem subR_known (k1 n1 : Int) (s1 : ByteArray) (b1 : Bool) (k2 n2 : Int) (s2 : ByteArray) (b2 : Bool) (st : ByteArray) (w : World) (CB : Hid (∀ w, Calls Tryd.prog 66 #[.agg #[.int .i64 k1, .int .i64 n1, .string s1, .bool b1], .agg #[.int .i64 k2, .int .i64 n2, .string s2, .bool b2], .int .i64 1] w fun e w' => e = .returned (.tuple #[.string st, .bool true]) ∧ Below w.heap.size w w')) : Calls Tryd.prog 37 #[.agg #[.int .i64 k1, .int .i64 n1, .string s1, .bool b1], .agg #[.int .i64 k2, .int .i64 n2, .string s2, .bool b2]] w fun e w' => e = .returned (.tuple #[.agg #[.int .i64 0, .int .i64 0, .string E, .bool false], .string st]) ∧ Below w.heap.size w w' := by
  obtain ⟨S0, S1, S2⟩ := three_boxes w (.cells #[.int .i64 k1, .int .i64 n1, .string s1, .bool b1] 28) (.cells #[.int .i64 k2, .int .i64 n2, .string s2, .bool b2] 28) (.cells #[.int .i64 0, .int .i64 0, .string ⟨#[]⟩, .bool false] 28)
  have S := Lib.hid (And.intro S0 (And.intro S1 S2))
  have SB := Lib.hid (below_three w (.cells #[.int .i64 k1, .int .i64 n1, .string s1, .bool b1] 28) (.cells #[.int .i64 k2, .int .i64 n2, .string s2, .bool b2] 28) (.cells #[.int .i64 0, .int .i64 0, .string ⟨#[]⟩, .bool false] 28))
  clear S0 S1 S2
  go_enter Tryd.func37, Tryd.ntmps37
  go_wp2_with fail
  refine (CB.out _).mono ?_
  rintro e w1 ⟨rfl, hb⟩
  have HB1 := Lib.hid (SB.out.trans (hb.mono SB.out.size))
  obtain ⟨a1, a2, a3, f0, f1, f2, f3, z0, z1, z2, z3⟩ := opened S.out.1 S.out.2.1 S.out.2.2 hb
  have A3 := Lib.hid a3
  clear hb a3
  go_wp2_with fail
  exact bodyPost_ret (v := .tuple #[.agg #[.int .i64 0, .int .i64 0, .string E, .bool false], .string st]) (by simp [results, Tryd.results37, go_sem, z0, z1, z2, z3]) rfl ⟨rfl, set_four (HB1.out) _ _ _ _⟩
set_option maxHeartbeats 1000000 in
set_option maxRecDepth 100000 in
theorem subR_ppp (k1 n1 : Int) (s1 : ByteArray) (b1 : Bool) (k2 n2 : Int) (s2 : ByteArray) (b2 : Bool) (c : Int) (w : World) (CB : Hid (∀ w, Calls Tryd.prog 66 #[.agg #[.int .i64 k1, .int .i64 n1, .string s1, .bool b1], .agg #[.int .i64 k2, .int .i64 n2, .string s2, .bool b2], .int .i64 1] w fun e w' => e = .returned (.tuple #[.string sDone, .bool false]) ∧ Below w.heap.size w w')) (hc : wrap64 (n1 - n2) = c) (x0 : decide (0 ≤ n1) = true) (x1 : decide (n1 < 0) = false) (y0' : decide (0 ≤ n2) = true) (y1' : decide (n2 < 0) = false) (z0' : decide (0 ≤ c) = true) (z1' : decide (c < 0) = false) : Calls Tryd.prog 37 #[.agg #[.int .i64 k1, .int .i64 n1, .string s1, .bool b1], .agg #[.int .i64 k2, .int .i64 n2, .string s2, .bool b2]] w fun e w' => e = .returned (.tuple #[.agg #[.int .i64 1, .int .i64 c, .string E, .bool false], .string sDone]) ∧ Below w.heap.size w w' := by
  obtain ⟨S0, S1, S2⟩ := three_boxes w (.cells #[.int .i64 k1, .int .i64 n1, .string s1, .bool b1] 28) (.cells #[.int .i64 k2, .int .i64 n2, .string s2, .bool b2] 28) (.cells #[.int .i64 0, .int .i64 0, .string ⟨#[]⟩, .bool false] 28)
  have S := Lib.hid (And.intro S0 (And.intro S1 S2))
  have SB := Lib.hid (below_three w (.cells #[.int .i64 k1, .int .i64 n1, .string s1, .bool b1] 28) (.cells #[.int .i64 k2, .int .i64 n2, .string s2, .bool b2] 28) (.cells #[.int .i64 0, .int .i64 0, .string ⟨#[]⟩, .bool false] 28))
  clear S0 S1 S2
  go_enter Tryd.func37, Tryd.ntmps37
  go_wp2_with fail
  refine (CB.out _).mono ?_
  rintro e w1 ⟨rfl, hb⟩
  have HB1 := Lib.hid (SB.out.trans (hb.mono SB.out.size))
  obtain ⟨a1, a2, a3, f0, f1, f2, f3, z0, z1, z2, z3⟩ := opened S.out.1 S.out.2.1 S.out.2.2 hb
  have A3 := Lib.hid a3
  clear hb a3
  go_wp2_with fail
  refine (num30 c _).mono ?_
  rintro e w2 ⟨rfl, hb2⟩
  have HB2 := Lib.hid ((HB1.out).trans (hb2.mono HB1.out.size))
  obtain ⟨g0, g1, g2, g3, y0, y1, y2, y3⟩ := opened1 A3.out hb2
  clear hb2 f0 f1 f2 f3 z0 z1 z2 z3
  go_wp2_with fail
  exact bodyPost_ret (v := .tuple #[.agg #[.int .i64 1, .int .i64 c, .string E, .bool false], .string sDone]) (by simp [results, Tryd.results37, go_sem, y0, y1, y2, y3]) rfl ⟨rfl, set_four (HB2.out) _ _ _ _⟩
set_option maxHeartbeats 1000000 in
set_option maxRecDepth 100000 in
theorem subR_ppm (k1 n1 : Int) (s1 : ByteArray) (b1 : Bool) (k2 n2 : Int) (s2 : ByteArray) (b2 : Bool) (c : Int) (w : World) (CB : Hid (∀ w, Calls Tryd.prog 66 #[.agg #[.int .i64 k1, .int .i64 n1, .string s1, .bool b1], .agg #[.int .i64 k2, .int .i64 n2, .string s2, .bool b2], .int .i64 1] w fun e w' => e = .returned (.tuple #[.string sDone, .bool false]) ∧ Below w.heap.size w w')) (hc : wrap64 (n1 - n2) = c) (x0 : decide (0 ≤ n1) = true) (x1 : decide (n1 < 0) = false) (y0' : decide (0 ≤ n2) = true) (y1' : decide (n2 < 0) = false) (z0' : decide (0 ≤ c) = false) (z1' : decide (c < 0) = true) : Calls Tryd.prog 37 #[.agg #[.int .i64 k1, .int .i64 n1, .string s1, .bool b1], .agg #[.int .i64 k2, .int .i64 n2, .string s2, .bool b2]] w fun e w' => e = .returned (.tuple #[.agg #[.int .i64 1, .int .i64 c, .string E, .bool false], .string sDone]) ∧ Below w.heap.size w w' := by
  obtain ⟨S0, S1, S2⟩ := three_boxes w (.cells #[.int .i64 k1, .int .i64 n1, .string s1, .bool b1] 28) (.cells #[.int .i64 k2, .int .i64 n2, .string s2, .bool b2] 28) (.cells #[.int .i64 0, .int .i64 0, .string ⟨#[]⟩, .bool false] 28)
  have S := Lib.hid (And.intro S0 (And.intro S1 S2))
  have SB := Lib.hid (below_three w (.cells #[.int .i64 k1, .int .i64 n1, .string s1, .bool b1] 28) (.cells #[.int .i64 k2, .int .i64 n2, .string s2, .bool b2] 28) (.cells #[.int .i64 0, .int .i64 0, .string ⟨#[]⟩, .bool false] 28))
  clear S0 S1 S2
  go_enter Tryd.func37, Tryd.ntmps37
  go_wp2_with fail
  refine (CB.out _).mono ?_
  rintro e w1 ⟨rfl, hb⟩
  have HB1 := Lib.hid (SB.out.trans (hb.mono SB.out.size))
  obtain ⟨a1, a2, a3, f0, f1, f2, f3, z0, z1, z2, z3⟩ := opened S.out.1 S.out.2.1 S.out.2.2 hb
  have A3 := Lib.hid a3
  clear hb a3
  go_wp2_with fail
  refine (num30 c _).mono ?_
  rintro e w2 ⟨rfl, hb2⟩
  have HB2 := Lib.hid ((HB1.out).trans (hb2.mono HB1.out.size))
  obtain ⟨g0, g1, g2, g3, y0, y1, y2, y3⟩ := opened1 A3.out hb2
  clear hb2 f0 f1 f2 f3 z0 z1 z2 z3
  go_wp2_with fail
  exact bodyPost_ret (v := .tuple #[.agg #[.int .i64 1, .int .i64 c, .string E, .bool false], .string sDone]) (by simp [results, Tryd.results37, go_sem, y0, y1, y2, y3]) rfl ⟨rfl, set_four (HB2.out) _ _ _ _⟩
set_option maxHeartbeats 1000000 in
set_option maxRecDepth 100000 in
theorem subR_pmp (k1 n1 : Int) (s1 : ByteArray) (b1 : Bool) (k2 n2 : Int) (s2 : ByteArray) (b2 : Bool) (c : Int) (w : World) (CB : Hid (∀ w, Calls Tryd.prog 66 #[.agg #[.int .i64 k1, .int .i64 n1, .string s1, .bool b1], .agg #[.int .i64 k2, .int .i64 n2, .string s2, .bool b2], .int .i64 1] w fun e w' => e = .returned (.tuple #[.string sDone, .bool false]) ∧ Below w.heap.size w w')) (hc : wrap64 (n1 - n2) = c) (x0 : decide (0 ≤ n1) = true) (x1 : decide (n1 < 0) = false) (y0' : decide (0 ≤ n2) = false) (y1' : decide (n2 < 0) = true) (z0' : decide (0 ≤ c) = true) (z1' : decide (c < 0) = false) : Calls Tryd.prog 37 #[.agg #[.int .i64 k1, .int .i64 n1, .string s1, .bool b1], .agg #[.int .i64 k2, .int .i64 n2, .string s2, .bool b2]] w fun e w' => e = .returned (.tuple #[.agg #[.int .i64 1, .int .i64 c, .string E, .bool false], .string sDone]) ∧ Below w.heap.size w w' := by
  obtain ⟨S0, S1, S2⟩ := three_boxes w (.cells #[.int .i64 k1, .int .i64 n1, .string s1, .bool b1] 28) (.cells #[.int .i64 k2, .int .i64 n2, .string s2, .bool b2] 28) (.cells #[.int .i64 0, .int .i64 0, .string ⟨#[]⟩, .bool false] 28)
  have S := Lib.hid (And.intro S0 (And.intro S1 S2))
  have SB := Lib.hid (below_three w (.cells #[.int .i64 k1, .int .i64 n1, .string s1, .bool b1] 28) (.cells #[.int .i64 k2, .int .i64 n2, .string s2, .bool b2] 28) (.cells #[.int .i64 0, .int .i64 0, .string ⟨#[]⟩, .bool false] 28))
  clear S0 S1 S2
  go_enter Tryd.func37, Tryd.ntmps37
  go_wp2_with fail
  refine (CB.out _).mono ?_
  rintro e w1 ⟨rfl, hb⟩
  have HB1 := Lib.hid (SB.out.trans (hb.mono SB.out.size))
  obtain ⟨a1, a2, a3, f0, f1, f2, f3, z0, z1, z2, z3⟩ := opened S.out.1 S.out.2.1 S.out.2.2 hb
  have A3 := Lib.hid a3
  clear hb a3
  go_wp2_with fail
  refine (num30 c _).mono ?_
  rintro e w2 ⟨rfl, hb2⟩
  have HB2 := Lib.hid ((HB1.out).trans (hb2.mono HB1.out.size))
  obtain ⟨g0, g1, g2, g3, y0, y1, y2, y3⟩ := opened1 A3.out hb2
  clear hb2 f0 f1 f2 f3 z0 z1 z2 z3
  go_wp2_with fail
  exact bodyPost_ret (v := .tuple #[.agg #[.int .i64 1, .int .i64 c, .string E, .bool false], .string sDone]) (by simp [results, Tryd.results37, go_sem, y0, y1, y2, y3]) rfl ⟨rfl, set_four (HB2.out) _ _ _ _⟩
set_option maxHeartbeats 1000000 in
set_option maxRecDepth 100000 in
theorem subR_pmm (k1 n1 : Int) (s1 : ByteArray) (b1 : Bool) (k2 n2 : Int) (s2 : ByteArray) (b2 : Bool) (c : Int) (w : World) (CB : Hid (∀ w, Calls Tryd.prog 66 #[.agg #[.int .i64 k1, .int .i64 n1, .string s1, .bool b1], .agg #[.int .i64 k2, .int .i64 n2, .string s2, .bool b2], .int .i64 1] w fun e w' => e = .returned (.tuple #[.string sDone, .bool false]) ∧ Below w.heap.size w w')) (hc : wrap64 (n1 - n2) = c) (x0 : decide (0 ≤ n1) = true) (x1 : decide (n1 < 0) = false) (y0' : decide (0 ≤ n2) = false) (y1' : decide (n2 < 0) = true) (z0' : decide (0 ≤ c) = false) (z1' : decide (c < 0) = true) : Calls Tryd.prog 37 #[.agg #[.int .i64 k1, .int .i64 n1, .string s1, .bool b1], .agg #[.int .i64 k2, .int .i64 n2, .string s2, .bool b2]] w fun e w' => e = .returned (.tuple #[.agg #[.int .i64 0, .int .i64 0, .string E, .bool false], .string sRange]) ∧ Below w.heap.size w w' := by
  obtain ⟨S0, S1, S2⟩ := three_boxes w (.cells #[.int .i64 k1, .int .i64 n1, .string s1, .bool b1] 28) (.cells #[.int .i64 k2, .int .i64 n2, .string s2, .bool b2] 28) (.cells #[.int .i64 0, .int .i64 0, .string ⟨#[]⟩, .bool false] 28)
  have S := Lib.hid (And.intro S0 (And.intro S1 S2))
  have SB := Lib.hid (below_three w (.cells #[.int .i64 k1, .int .i64 n1, .string s1, .bool b1] 28) (.cells #[.int .i64 k2, .int .i64 n2, .string s2, .bool b2] 28) (.cells #[.int .i64 0, .int .i64 0, .string ⟨#[]⟩, .bool false] 28))
  clear S0 S1 S2
  go_enter Tryd.func37, Tryd.ntmps37
  go_wp2_with fail
  refine (CB.out _).mono ?_
  rintro e w1 ⟨rfl, hb⟩
  have HB1 := Lib.hid (SB.out.trans (hb.mono SB.out.size))
  obtain ⟨a1, a2, a3, f0, f1, f2, f3, z0, z1, z2, z3⟩ := opened S.out.1 S.out.2.1 S.out.2.2 hb
  have A3 := Lib.hid a3
  clear hb a3
  go_wp2_with fail
  exact bodyPost_ret (v := .tuple #[.agg #[.int .i64 0, .int .i64 0, .string E, .bool false], .string sRange]) (by simp [results, Tryd.results37, go_sem, z0, z1, z2, z3]) rfl ⟨rfl, set_four (HB1.out) _ _ _ _⟩
set_option maxHeartbeats 1000000 in
set_option maxRecDepth 100000 in
theorem subR_mpp (k1 n1 : Int) (s1 : ByteArray) (b1 : Bool) (k2 n2 : Int) (s2 : ByteArray) (b2 : Bool) (c : Int) (w : World) (CB : Hid (∀ w, Calls Tryd.prog 66 #[.agg #[.int .i64 k1, .int .i64 n1, .string s1, .bool b1], .agg #[.int .i64 k2, .int .i64 n2, .string s2, .bool b2], .int .i64 1] w fun e w' => e = .returned (.tuple #[.string sDone, .bool false]) ∧ Below w.heap.size w w')) (hc : wrap64 (n1 - n2) = c) (x0 : decide (0 ≤ n1) = false) (x1 : decide (n1 < 0) = true) (y0' : decide (0 ≤ n2) = true) (y1' : decide (n2 < 0) = false) (z0' : decide (0 ≤ c) = true) (z1' : decide (c < 0) = false) : Calls Tryd.prog 37 #[.agg #[.int .i64 k1, .int .i64 n1, .string s1, .bool b1], .agg #[.int .i64 k2, .int .i64 n2, .string s2, .bool b2]] w fun e w' => e = .returned (.tuple #[.agg #[.int .i64 0, .int .i64 0, .string E, .bool false], .string sRange]) ∧ Below w.heap.size w w' := by
  obtain ⟨S0, S1, S2⟩ := three_boxes w (.cells #[.int .i64 k1, .int .i64 n1, .string s1, .bool b1] 28) (.cells #[.int .i64 k2, .int .i64 n2, .string s2, .bool b2] 28) (.cells #[.int .i64 0, .int .i64 0, .string ⟨#[]⟩, .bool false] 28)
  have S := Lib.hid (And.intro S0 (And.intro S1 S2))
  have SB := Lib.hid (below_three w (.cells #[.int .i64 k1, .int .i64 n1, .string s1, .bool b1] 28) (.cells #[.int .i64 k2, .int .i64 n2, .string s2, .bool b2] 28) (.cells #[.int .i64 0, .int .i64 0, .string ⟨#[]⟩, .bool false] 28))
  clear S0 S1 S2
  go_enter Tryd.func37, Tryd.ntmps37
  go_wp2_with fail
  refine (CB.out _).mono ?_
  rintro e w1 ⟨rfl, hb⟩
  have HB1 := Lib.hid (SB.out.trans (hb.mono SB.out.size))
  obtain ⟨a1, a2, a3, f0, f1, f2, f3, z0, z1, z2, z3⟩ := opened S.out.1 S.out.2.1 S.out.2.2 hb
  have A3 := Lib.hid a3
  clear hb a3
  go_wp2_with fail
  exact bodyPost_ret (v := .tuple #[.agg #[.int .i64 0, .int .i64 0, .string E, .bool false], .string sRange]) (by simp [results, Tryd.results37, go_sem, z0, z1, z2, z3]) rfl ⟨rfl, set_four (HB1.out) _ _ _ _⟩
set_option maxHeartbeats 1000000 in
set_option maxRecDepth 100000 in
theorem subR_mpm (k1 n1 : Int) (s1 : ByteArray) (b1 : Bool) (k2 n2 : Int) (s2 : ByteArray) (b2 : Bool) (c : Int) (w : World) (CB : Hid (∀ w, Calls Tryd.prog 66 #[.agg #[.int .i64 k1, .int .i64 n1, .string s1, .bool b1], .agg #[.int .i64 k2, .int .i64 n2, .string s2, .bool b2], .int .i64 1] w fun e w' => e = .returned (.tuple #[.string sDone, .bool false]) ∧ Below w.heap.size w w')) (hc : wrap64 (n1 - n2) = c) (x0 : decide (0 ≤ n1) = false) (x1 : decide (n1 < 0) = true) (y0' : decide (0 ≤ n2) = true) (y1' : decide (n2 < 0) = false) (z0' : decide (0 ≤ c) = false) (z1' : decide (c < 0) = true) : Calls Tryd.prog 37 #[.agg #[.int .i64 k1, .int .i64 n1, .string s1, .bool b1], .agg #[.int .i64 k2, .int .i64 n2, .string s2, .bool b2]] w fun e w' => e = .returned (.tuple #[.agg #[.int .i64 1, .int .i64 c, .string E, .bool false], .string sDone]) ∧ Below w.heap.size w w' := by
  obtain ⟨S0, S1, S2⟩ := three_boxes w (.cells #[.int .i64 k1, .int .i64 n1, .string s1, .bool b1] 28) (.cells #[.int .i64 k2, .int .i64 n2, .string s2, .bool b2] 28) (.cells #[.int .i64 0, .int .i64 0, .string ⟨#[]⟩, .bool false] 28)
  have S := Lib.hid (And.intro S0 (And.intro S1 S2))
  have SB := Lib.hid (below_three w (.cells #[.int .i64 k1, .int .i64 n1, .string s1, .bool b1] 28) (.cells #[.int .i64 k2, .int .i64 n2, .string s2, .bool b2] 28) (.cells #[.int .i64 0, .int .i64 0, .string ⟨#[]⟩, .bool false] 28))
  clear S0 S1 S2
  go_enter Tryd.func37, Tryd.ntmps37
  go_wp2_with fail
  refine (CB.out _).mono ?_
  rintro e w1 ⟨rfl, hb⟩
  have HB1 := Lib.hid (SB.out.trans (hb.mono SB.out.size))
  obtain ⟨a1, a2, a3, f0, f1, f2, f3, z0, z1, z2, z3⟩ := opened S.out.1 S.out.2.1 S.out.2.2 hb
  have A3 := Lib.hid a3
  clear hb a3
  go_wp2_with fail
  refine (num30 c _).mono ?_
  rintro e w2 ⟨rfl, hb2⟩
  have HB2 := Lib.hid ((HB1.out).trans (hb2.mono HB1.out.size))
  obtain ⟨g0, g1, g2, g3, y0, y1, y2, y3⟩ := opened1 A3.out hb2
  clear hb2 f0 f1 f2 f3 z0 z1 z2 z3
  go_wp2_with fail
  exact bodyPost_ret (v := .tuple #[.agg #[.int .i64 1, .int .i64 c, .string E, .bool false], .string sDone]) (by simp [results, Tryd.results37, go_sem, y0, y1, y2, y3]) rfl ⟨rfl, set_four (HB2.out) _ _ _ _⟩
set_option maxHeartbeats 1000000 in
set_option maxRecDepth 100000 in
theorem subR_mmp (k1 n1 : Int) (s1 : ByteArray) (b1 : Bool) (k2 n2 : Int) (s2 : ByteArray) (b2 : Bool) (c : Int) (w : World) (CB : Hid (∀ w, Calls Tryd.prog 66 #[.agg #[.int .i64 k1, .int .i64 n1, .string s1, .bool b1], .agg #[.int .i64 k2, .int .i64 n2, .string s2, .bool b2], .int .i64 1] w fun e w' => e = .returned (.tuple #[.string sDone, .bool false]) ∧ Below w.heap.size w w')) (hc : wrap64 (n1 - n2) = c) (x0 : decide (0 ≤ n1) = false) (x1 : decide (n1 < 0) = true) (y0' : decide (0 ≤ n2) = false) (y1' : decide (n2 < 0) = true) (z0' : decide (0 ≤ c) = true) (z1' : decide (c < 0) = false) : Calls Tryd.prog 37 #[.agg #[.int .i64 k1, .int .i64 n1, .string s1, .bool b1], .agg #[.int .i64 k2, .int .i64 n2, .string s2, .bool b2]] w fun e w' => e = .returned (.tuple #[.agg #[.int .i64 1, .int .i64 c, .string E, .bool false], .string sDone]) ∧ Below w.heap.size w w' := by
  obtain ⟨S0, S1, S2⟩ := three_boxes w (.cells #[.int .i64 k1, .int .i64 n1, .string s1, .bool b1] 28) (.cells #[.int .i64 k2, .int .i64 n2, .string s2, .bool b2] 28) (.cells #[.int .i64 0, .int .i64 0, .string ⟨#[]⟩, .bool false] 28)
  have S := Lib.hid (And.intro S0 (And.intro S1 S2))
  have SB := Lib.hid (below_three w (.cells #[.int .i64 k1, .int .i64 n1, .string s1, .bool b1] 28) (.cells #[.int .i64 k2, .int .i64 n2, .string s2, .bool b2] 28) (.cells #[.int .i64 0, .int .i64 0, .string ⟨#[]⟩, .bool false] 28))
  clear S0 S1 S2
  go_enter Tryd.func37, Tryd.ntmps37
  go_wp2_with fail
  refine (CB.out _).mono ?_
  rintro e w1 ⟨rfl, hb⟩
  have HB1 := Lib.hid (SB.out.trans (hb.mono SB.out.size))
  obtain ⟨a1, a2, a3, f0, f1, f2, f3, z0, z1, z2, z3⟩ := opened S.out.1 S.out.2.1 S.out.2.2 hb
  have A3 := Lib.hid a3
  clear hb a3
  go_wp2_with fail
  refine (num30 c _).mono ?_
  rintro e w2 ⟨rfl, hb2⟩
  have HB2 := Lib.hid ((HB1.out).trans (hb2.mono HB1.out.size))
  obtain ⟨g0, g1, g2, g3, y0, y1, y2, y3⟩ := opened1 A3.out hb2
  clear hb2 f0 f1 f2 f3 z0 z1 z2 z3
  go_wp2_with fail
  exact bodyPost_ret (v := .tuple #[.agg #[.int .i64 1, .int .i64 c, .string E, .bool false], .string sDone]) (by simp [results, Tryd.results37, go_sem, y0, y1, y2, y3]) rfl ⟨rfl, set_four (HB2.out) _ _ _ _⟩
set_option maxHeartbeats 1000000 in
set_option maxRecDepth 100000 in
theorem subR_mmm (k1 n1 : Int) (s1 : ByteArray) (b1 : Bool) (k2 n2 : Int) (s2 : ByteArray) (b2 : Bool) (c : Int) (w : World) (CB : Hid (∀ w, Calls Tryd.prog 66 #[.agg #[.int .i64 k1, .int .i64 n1, .string s1, .bool b1], .agg #[.int .i64 k2, .int .i64 n2, .string s2, .bool b2], .int .i64 1] w fun e w' => e = .returned (.tuple #[.string sDone, .bool false]) ∧ Below w.heap.size w w')) (hc : wrap64 (n1 - n2) = c) (x0 : decide (0 ≤ n1) = false) (x1 : decide (n1 < 0) = true) (y0' : decide (0 ≤ n2) = false) (y1' : decide (n2 < 0) = true) (z0' : decide (0 ≤ c) = false) (z1' : decide (c < 0) = true) : Calls Tryd.prog 37 #[.agg #[.int .i64 k1, .int .i64 n1, .string s1, .bool b1], .agg #[.int .i64 k2, .int .i64 n2, .string s2, .bool b2]] w fun e w' => e = .returned (.tuple #[.agg #[.int .i64 1, .int .i64 c, .string E, .bool false], .string sDone]) ∧ Below w.heap.size w w' := by
  obtain ⟨S0, S1, S2⟩ := three_boxes w (.cells #[.int .i64 k1, .int .i64 n1, .string s1, .bool b1] 28) (.cells #[.int .i64 k2, .int .i64 n2, .string s2, .bool b2] 28) (.cells #[.int .i64 0, .int .i64 0, .string ⟨#[]⟩, .bool false] 28)
  have S := Lib.hid (And.intro S0 (And.intro S1 S2))
  have SB := Lib.hid (below_three w (.cells #[.int .i64 k1, .int .i64 n1, .string s1, .bool b1] 28) (.cells #[.int .i64 k2, .int .i64 n2, .string s2, .bool b2] 28) (.cells #[.int .i64 0, .int .i64 0, .string ⟨#[]⟩, .bool false] 28))
  clear S0 S1 S2
  go_enter Tryd.func37, Tryd.ntmps37
  go_wp2_with fail
  refine (CB.out _).mono ?_
  rintro e w1 ⟨rfl, hb⟩
  have HB1 := Lib.hid (SB.out.trans (hb.mono SB.out.size))
  obtain ⟨a1, a2, a3, f0, f1, f2, f3, z0, z1, z2, z3⟩ := opened S.out.1 S.out.2.1 S.out.2.2 hb
  have A3 := Lib.hid a3
  clear hb a3
  go_wp2_with fail
  refine (num30 c _).mono ?_
  rintro e w2 ⟨rfl, hb2⟩
  have HB2 := Lib.hid ((HB1.out).trans (hb2.mono HB1.out.size))
  obtain ⟨g0, g1, g2, g3, y0, y1, y2, y3⟩ := opened1 A3.out hb2
  clear hb2 f0 f1 f2 f3 z0 z1 z2 z3
  go_wp2_with fail
  exact bodyPost_ret (v := .tuple #[.agg #[.int .i64 1, .int .i64 c, .string E, .bool false], .string sDone]) (by simp [results, Tryd.results37, go_sem, y0, y1, y2, y3]) rfl ⟨rfl, set_four (HB2.out) _ _ _ _⟩
theorem subR_raw (k1 n1 : Int) (s1 : ByteArray) (b1 : Bool) (k2 n2 : Int) (s2 : ByteArray) (b2 : Bool) (w : World) (f1 : Fit n1) (f2 : Fit n2) : Calls Tryd.prog 37 #[.agg #[.int .i64 k1, .int .i64 n1, .string s1, .bool b1], .agg #[.int .i64 k2, .int .i64 n2, .string s2, .bool b2]] w fun e w' => RetR (liftF 1 k1 k2 (subF n1 n2)) e ∧ Below w.heap.size w w' := by
  have hB := fun w => both_any k1 n1 s1 b1 k2 n2 s2 b2 1 w
  unfold bothF at hB
  unfold liftF
  by_cases h1 : (k1 ≠ 0 ∧ k1 ≠ 1) ∨ (k2 ≠ 0 ∧ k2 ≠ 1)
  · rw [if_pos h1]
    rw [if_pos h1] at hB
    exact subR_known _ _ _ _ _ _ _ _ sMis w hB
  rw [if_neg h1]
  rw [if_neg h1] at hB
  by_cases h2 : k1 = 0 ∨ k2 = 0
  · rw [if_pos h2]
    have e : ((k1 == 0) || (k2 == 0)) = true := by rcases h2 with h | h <;> simp [h]
    rw [e] at hB
    exact subR_known _ _ _ _ _ _ _ _ sDone w hB
  rw [if_neg h2]
  have e : ((k1 == 0) || (k2 == 0)) = false := by simp; omega
  rw [e] at hB
  unfold Fit at f1 f2
  obtain ⟨c, hc⟩ : ∃ c, wrap64 (n1 - n2) = c := ⟨_, rfl⟩
  have hcc := hc
  unfold wrap64 at hcc
  have yes : (decide (c < n1) == decide (0 < n2)) = true → subF n1 n2 = (1, c, E, false, sDone) := fun h => by unfold subF inF; rw [hc, if_pos h]
  have no : (decide (c < n1) == decide (0 < n2)) = false → subF n1 n2 = nulR sRange := fun h => by unfold subF inF; rw [hc, if_neg (by rw [h]; decide)]
  have bt : ∀ p q : Prop, [Decidable p] → [Decidable q] → (p ↔ q) → (decide p == decide q) = true := fun p q _ _ h => by rw [beq_iff_eq, decide_eq_decide]; exact h
  have bf : ∀ p q : Prop, [Decidable p] → [Decidable q] → ¬ (p ↔ q) → (decide p == decide q) = false := fun p q _ _ h => by rw [beq_eq_false_iff_ne, ne_eq, decide_eq_decide]; exact h
  by_cases q1 : n1 < 0
  · by_cases q2 : n2 < 0
    · by_cases q3 : c < 0
      · rw [yes (bt _ _ (by omega))]
        exact subR_mmm _ _ _ _ _ _ _ _ c w hB hc (decide_eq_false (by omega)) (decide_eq_true (by omega)) (decide_eq_false (by omega)) (decide_eq_true (by omega)) (decide_eq_false (by omega)) (decide_eq_true (by omega))
      · rw [yes (bt _ _ (by omega))]
        exact subR_mmp _ _ _ _ _ _ _ _ c w hB hc (decide_eq_false (by omega)) (decide_eq_true (by omega)) (decide_eq_false (by omega)) (decide_eq_true (by omega)) (decide_eq_true (by omega)) (decide_eq_false (by omega))
    · by_cases q3 : c < 0
      · rw [yes (bt _ _ (by omega))]
        exact subR_mpm _ _ _ _ _ _ _ _ c w hB hc (decide_eq_false (by omega)) (decide_eq_true (by omega)) (decide_eq_true (by omega)) (decide_eq_false (by omega)) (decide_eq_false (by omega)) (decide_eq_true (by omega))
      · rw [no (bf _ _ (by omega))]
        exact subR_mpp _ _ _ _ _ _ _ _ c w hB hc (decide_eq_false (by omega)) (decide_eq_true (by omega)) (decide_eq_true (by omega)) (decide_eq_false (by omega)) (decide_eq_true (by omega)) (decide_eq_false (by omega))
  · by_cases q2 : n2 < 0
    · by_cases q3 : c < 0
      · rw [no (bf _ _ (by omega))]
        exact subR_pmm _ _ _ _ _ _ _ _ c w hB hc (decide_eq_true (by omega)) (decide_eq_false (by omega)) (decide_eq_false (by omega)) (decide_eq_true (by omega)) (decide_eq_false (by omega)) (decide_eq_true (by omega))
      · rw [yes (bt _ _ (by omega))]
        exact subR_pmp _ _ _ _ _ _ _ _ c w hB hc (decide_eq_true (by omega)) (decide_eq_false (by omega)) (decide_eq_false (by omega)) (decide_eq_true (by omega)) (decide_eq_true (by omega)) (decide_eq_false (by omega))
    · by_cases q3 : c < 0
      · rw [yes (bt _ _ (by omega))]
        exact subR_ppm _ _ _ _ _ _ _ _ c w hB hc (decide_eq_true (by omega)) (decide_eq_false (by omega)) (decide_eq_true (by omega)) (decide_eq_false (by omega)) (decide_eq_false (by omega)) (decide_eq_true (by omega))
      · rw [yes (bt _ _ (by omega))]
        exact subR_ppp _ _ _ _ _ _ _ _ c w hB hc (decide_eq_true (by omega)) (decide_eq_false (by omega)) (decide_eq_true (by omega)) (decide_eq_false (by omega)) (decide_eq_true (by omega)) (decide_eq_false (by omega))
theorem addR_raw5 (k1 n1 : Int) (s1 : ByteArray) (b1 : Bool) (k2 n2 : Int) (s2 : ByteArray) (b2 : Bool) (r1 r2 : Int) (r3 : ByteArray) (r4 : Bool) (r5 : ByteArray) (w : World) (f1 : Fit n1) (f2 : Fit n2) (h : liftF 1 k1 k2 (addF n1 n2) = (r1, r2, r3, r4, r5)) : Calls Tryd.prog 36 #[.agg #[.int .i64 k1, .int .i64 n1, .string s1, .bool b1], .agg #[.int .i64 k2, .int .i64 n2, .string s2, .bool b2]] w fun e w' => e = .returned (.tuple #[.agg #[.int .i64 r1, .int .i64 r2, .string r3, .bool r4], .string r5]) ∧ Below w.heap.size w w' := by
  have := addR_raw k1 n1 s1 b1 k2 n2 s2 b2 w f1 f2
  rw [h] at this
  exact this
theorem subR_raw5 (k1 n1 : Int) (s1 : ByteArray) (b1 : Bool) (k2 n2 : Int) (s2 : ByteArray) (b2 : Bool) (r1 r2 : Int) (r3 : ByteArray) (r4 : Bool) (r5 : ByteArray) (w : World) (f1 : Fit n1) (f2 : Fit n2) (h : liftF 1 k1 k2 (subF n1 n2) = (r1, r2, r3, r4, r5)) : Calls Tryd.prog 37 #[.agg #[.int .i64 k1, .int .i64 n1, .string s1, .bool b1], .agg #[.int .i64 k2, .int .i64 n2, .string s2, .bool b2]] w fun e w' => e = .returned (.tuple #[.agg #[.int .i64 r1, .int .i64 r2, .string r3, .bool r4], .string r5]) ∧ Below w.heap.size w w' := by
  have := subR_raw k1 n1 s1 b1 k2 n2 s2 b2 w f1 f2
  rw [h] at this
  exact this
end Vl
end Go.Proofs.YtlmkhpgnkpgbdaaDoor

namespace Go.Proofs.YtlmkhpgnkpgbdaaDoor
open Go.RowKit
set_option linter.unusedVariables false
set_option linter.unusedSimpArgs false
namespace Vl
set_option maxHeartbeats 4000000 in
set_option maxRecDepth 100000 in
theorem add_raw (k1 n1 : Int) (s1 : ByteArray) (b1 : Bool) (k2 n2 : Int) (s2 : ByteArray) (b2 : Bool) (r1 r2 : Int) (r3 : ByteArray) (r4 : Bool) (r5 : ByteArray) (w : World) (h : liftF 1 k1 k2 (addF n1 n2) = (r1, r2, r3, r4, r5)) : Calls Tryd.prog 31 #[.agg #[.int .i64 k1, .int .i64 n1, .string s1, .bool b1], .agg #[.int .i64 k2, .int .i64 n2, .string s2, .bool b2]] w fun e w' => e = .returned (.tuple #[.agg #[.int .i64 r1, .int .i64 r2, .string r3, .bool r4], .string r5]) ∧ Nw w w' := by
  by_cases z1 : k1 = 0
  · subst z1
    by_cases z2 : k2 = 0
    · subst z2
      rw [liftF_nul _ _ _ _ (by simp) (.inl rfl)] at h
      simp only [nulR, Prod.mk.injEq] at h
      obtain ⟨rfl, rfl, rfl, rfl, rfl⟩ := h
      go_enter Tryd.func31, Tryd.ntmps31
      go_wp2_with fail
      refine (lift_3a _ _ _ _ _ _ _ _ _ _ _ rfl rfl rfl).mono ?_
      rintro e w1 ⟨rfl, hb⟩
      obtain ⟨q1, q2⟩ := hb.at_ (w.heap.size + 2) (by simp <;> omega)
      have hz := hb.size
      (try simp at hz)
      have G := Lib.hid hb
      clear hb
      go_wp2_with fail
      exact bodyPost_ret (v := .tuple #[.agg #[.int .i64 0, .int .i64 0, .string E, .bool false], .string sDone]) (by simp [results, Tryd.results31, go_sem, q1]) rfl ⟨rfl, (by repeat (first | exact Nw.refl _ | exact Nw.to (b := _) (by repeat (first | exact Nw.refl _ | assumption | apply Nw.alloc | apply Nw.drew | refine Nw.setCell ?_ (by simp <;> omega) _)) G.out | apply Nw.alloc | apply Nw.drew | refine Nw.setCell ?_ (by simp <;> omega) _))⟩
    · by_cases e2 : k2 = 1
      · subst e2
        rw [liftF_nul _ _ _ _ (by simp) (.inl rfl)] at h
        simp only [nulR, Prod.mk.injEq] at h
        obtain ⟨rfl, rfl, rfl, rfl, rfl⟩ := h
        go_enter Tryd.func31, Tryd.ntmps31
        go_wp2_with fail
        refine (lift_3b _ _ _ _ _ _ _ _ _ _ _ rfl rfl rfl rfl).mono ?_
        rintro e w1 ⟨rfl, hb⟩
        obtain ⟨q1, q2⟩ := hb.at_ (w.heap.size + 2) (by simp <;> omega)
        have hz := hb.size
        (try simp at hz)
        have G := Lib.hid hb
        clear hb
        go_wp2_with fail
        exact bodyPost_ret (v := .tuple #[.agg #[.int .i64 0, .int .i64 0, .string E, .bool false], .string sDone]) (by simp [results, Tryd.results31, go_sem, q1]) rfl ⟨rfl, (by repeat (first | exact Nw.refl _ | exact Nw.to (b := _) (by repeat (first | exact Nw.refl _ | assumption | apply Nw.alloc | apply Nw.drew | refine Nw.setCell ?_ (by simp <;> omega) _)) G.out | apply Nw.alloc | apply Nw.drew | refine Nw.setCell ?_ (by simp <;> omega) _))⟩
      · have H3 := Lib.hid (bne_iff_ne.2 z2)
        have H4 := Lib.hid (bne_iff_ne.2 e2)
        rw [liftF_mis _ _ _ _ (.inr ⟨z2, e2⟩)] at h
        clear z2 e2
        simp only [nulR, Prod.mk.injEq] at h
        obtain ⟨rfl, rfl, rfl, rfl, rfl⟩ := h
        go_enter Tryd.func31, Tryd.ntmps31
        go_wp2_with fail
        refine (lift_2a _ _ _ _ _ _ _ _ _ _ _ rfl H3.out H4.out).mono ?_
        rintro e w1 ⟨rfl, hb⟩
        obtain ⟨q1, q2⟩ := hb.at_ (w.heap.size + 2) (by simp <;> omega)
        have hz := hb.size
        (try simp at hz)
        have G := Lib.hid hb
        clear hb
        go_wp2_with fail
        exact bodyPost_ret (v := .tuple #[.agg #[.int .i64 0, .int .i64 0, .string E, .bool false], .string sMis]) (by simp [results, Tryd.results31, go_sem, q1]) rfl ⟨rfl, (by repeat (first | exact Nw.refl _ | exact Nw.to (b := _) (by repeat (first | exact Nw.refl _ | assumption | apply Nw.alloc | apply Nw.drew | refine Nw.setCell ?_ (by simp <;> omega) _)) G.out | apply Nw.alloc | apply Nw.drew | refine Nw.setCell ?_ (by simp <;> omega) _))⟩
  · by_cases e1 : k1 = 1
    · subst e1
      by_cases z2 : k2 = 0
      · subst z2
        rw [liftF_nul _ _ _ _ (by simp) (.inr rfl)] at h
        simp only [nulR, Prod.mk.injEq] at h
        obtain ⟨rfl, rfl, rfl, rfl, rfl⟩ := h
        go_enter Tryd.func31, Tryd.ntmps31
        go_wp2_with fail
        refine (lift_3c _ _ _ _ _ _ _ _ _ _ _ rfl rfl rfl rfl rfl).mono ?_
        rintro e w1 ⟨rfl, hb⟩
        obtain ⟨q1, q2⟩ := hb.at_ (w.heap.size + 2) (by simp <;> omega)
        have hz := hb.size
        (try simp at hz)
        have G := Lib.hid hb
        clear hb
        go_wp2_with fail
        exact bodyPost_ret (v := .tuple #[.agg #[.int .i64 0, .int .i64 0, .string E, .bool false], .string sDone]) (by simp [results, Tryd.results31, go_sem, q1]) rfl ⟨rfl, (by repeat (first | exact Nw.refl _ | exact Nw.to (b := _) (by repeat (first | exact Nw.refl _ | assumption | apply Nw.alloc | apply Nw.drew | refine Nw.setCell ?_ (by simp <;> omega) _)) G.out | apply Nw.alloc | apply Nw.drew | refine Nw.setCell ?_ (by simp <;> omega) _))⟩
      · by_cases e2 : k2 = 1
        · subst e2
          rw [liftF_do _ (by decide)] at h
          have HD := Lib.hid h
          clear h z1 z2
          go_enter Tryd.func31, Tryd.ntmps31
          go_wp2_with fail
          refine (lift_4_58 _ _ _ _ _ _ _ _ _ _ _ _ _ _ _ _ _ rfl rfl rfl rfl rfl rfl (fun W hW => add_do _ _ _ _ W ((hW.at_ (w.heap.size) (by simp <;> omega)).1 1 |>.trans (by simp [go_sem])) ((hW.at_ (w.heap.size + 1) (by simp <;> omega)).1 1 |>.trans (by simp [go_sem])) _ _ _ _ _ HD.out)).mono ?_
          rintro e w1 ⟨rfl, hb⟩
          obtain ⟨q1, q2⟩ := hb.at_ (w.heap.size + 2) (by simp <;> omega)
          have hz := hb.size
          (try simp at hz)
          have G := Lib.hid hb
          clear hb
          go_wp2_with fail
          exact bodyPost_ret (v := .tuple #[.agg #[.int .i64 r1, .int .i64 r2, .string r3, .bool r4], .string r5]) (by simp [results, Tryd.results31, go_sem, q1]) rfl ⟨rfl, (by repeat (first | exact Nw.refl _ | exact Nw.to (b := _) (by repeat (first | exact Nw.refl _ | assumption | apply Nw.alloc | apply Nw.drew | refine Nw.setCell ?_ (by simp <;> omega) _)) G.out | apply Nw.alloc | apply Nw.drew | refine Nw.setCell ?_ (by simp <;> omega) _))⟩
        · have H3 := Lib.hid (bne_iff_ne.2 z2)
          have H4 := Lib.hid (bne_iff_ne.2 e2)
          rw [liftF_mis _ _ _ _ (.inr ⟨z2, e2⟩)] at h
          clear z2 e2
          simp only [nulR, Prod.mk.injEq] at h
          obtain ⟨rfl, rfl, rfl, rfl, rfl⟩ := h
          go_enter Tryd.func31, Tryd.ntmps31
          go_wp2_with fail
          refine (lift_2b _ _ _ _ _ _ _ _ _ _ _ rfl rfl H3.out H4.out).mono ?_
          rintro e w1 ⟨rfl, hb⟩
          obtain ⟨q1, q2⟩ := hb.at_ (w.heap.size + 2) (by simp <;> omega)
          have hz := hb.size
          (try simp at hz)
          have G := Lib.hid hb
          clear hb
          go_wp2_with fail
          exact bodyPost_ret (v := .tuple #[.agg #[.int .i64 0, .int .i64 0, .string E, .bool false], .string sMis]) (by simp [results, Tryd.results31, go_sem, q1]) rfl ⟨rfl, (by repeat (first | exact Nw.refl _ | exact Nw.to (b := _) (by repeat (first | exact Nw.refl _ | assumption | apply Nw.alloc | apply Nw.drew | refine Nw.setCell ?_ (by simp <;> omega) _)) G.out | apply Nw.alloc | apply Nw.drew | refine Nw.setCell ?_ (by simp <;> omega) _))⟩
    · have H1 := Lib.hid (bne_iff_ne.2 z1)
      have H2 := Lib.hid (bne_iff_ne.2 e1)
      rw [liftF_mis _ _ _ _ (.inl ⟨z1, e1⟩)] at h
      clear z1 e1
      simp only [nulR, Prod.mk.injEq] at h
      obtain ⟨rfl, rfl, rfl, rfl, rfl⟩ := h
      go_enter Tryd.func31, Tryd.ntmps31
      go_wp2_with fail
      refine (lift_1 _ _ _ _ _ _ _ _ _ _ _ H1.out H2.out).mono ?_
      rintro e w1 ⟨rfl, hb⟩
      obtain ⟨q1, q2⟩ := hb.at_ (w.heap.size + 2) (by simp <;> omega)
      have hz := hb.size
      (try simp at hz)
      have G := Lib.hid hb
      clear hb
      go_wp2_with fail
      exact bodyPost_ret (v := .tuple #[.agg #[.int .i64 0, .int .i64 0, .string E, .bool false], .string sMis]) (by simp [results, Tryd.results31, go_sem, q1]) rfl ⟨rfl, (by repeat (first | exact Nw.refl _ | exact Nw.to (b := _) (by repeat (first | exact Nw.refl _ | assumption | apply Nw.alloc | apply Nw.drew | refine Nw.setCell ?_ (by simp <;> omega) _)) G.out | apply Nw.alloc | apply Nw.drew | refine Nw.setCell ?_ (by simp <;> omega) _))⟩
set_option maxHeartbeats 4000000 in
set_option maxRecDepth 100000 in
theorem sub_raw (k1 n1 : Int) (s1 : ByteArray) (b1 : Bool) (k2 n2 : Int) (s2 : ByteArray) (b2 : Bool) (r1 r2 : Int) (r3 : ByteArray) (r4 : Bool) (r5 : ByteArray) (w : World) (h : liftF 1 k1 k2 (subF n1 n2) = (r1, r2, r3, r4, r5)) : Calls Tryd.prog 32 #[.agg #[.int .i64 k1, .int .i64 n1, .string s1, .bool b1], .agg #[.int .i64 k2, .int .i64 n2, .string s2, .bool b2]] w fun e w' => e = .returned (.tuple #[.agg #[.int .i64 r1, .int .i64 r2, .string r3, .bool r4], .string r5]) ∧ Nw w w' := by
  by_cases z1 : k1 = 0
  · subst z1
    by_cases z2 : k2 = 0
    · subst z2
      rw [liftF_nul _ _ _ _ (by simp) (.inl rfl)] at h
      simp only [nulR, Prod.mk.injEq] at h
      obtain ⟨rfl, rfl, rfl, rfl, rfl⟩ := h
      go_enter Tryd.func32, Tryd.ntmps32
      go_wp2_with fail
      refine (lift_3a _ _ _ _ _ _ _ _ _ _ _ rfl rfl rfl).mono ?_
      rintro e w1 ⟨rfl, hb⟩
      obtain ⟨q1, q2⟩ := hb.at_ (w.heap.size + 2) (by simp <;> omega)
      have hz := hb.size
      (try simp at hz)
      have G := Lib.hid hb
      clear hb
      go_wp2_with fail
      exact bodyPost_ret (v := .tuple #[.agg #[.int .i64 0, .int .i64 0, .string E, .bool false], .string sDone]) (by simp [results, Tryd.results32, go_sem, q1]) rfl ⟨rfl, (by repeat (first | exact Nw.refl _ | exact Nw.to (b := _) (by repeat (first | exact Nw.refl _ | assumption | apply Nw.alloc | apply Nw.drew | refine Nw.setCell ?_ (by simp <;> omega) _)) G.out | apply Nw.alloc | apply Nw.drew | refine Nw.setCell ?_ (by simp <;> omega) _))⟩
    · by_cases e2 : k2 = 1
      · subst e2
        rw [liftF_nul _ _ _ _ (by simp) (.inl rfl)] at h
        simp only [nulR, Prod.mk.injEq] at h
        obtain ⟨rfl, rfl, rfl, rfl, rfl⟩ := h
        go_enter Tryd.func32, Tryd.ntmps32
        go_wp2_with fail
        refine (lift_3b _ _ _ _ _ _ _ _ _ _ _ rfl rfl rfl rfl).mono ?_
        rintro e w1 ⟨rfl, hb⟩
        obtain ⟨q1, q2⟩ := hb.at_ (w.heap.size + 2) (by simp <;> omega)
        have hz := hb.size
        (try simp at hz)
        have G := Lib.hid hb
        clear hb
        go_wp2_with fail
        exact bodyPost_ret (v := .tuple #[.agg #[.int .i64 0, .int .i64 0, .string E, .bool false], .string sDone]) (by simp [results, Tryd.results32, go_sem, q1]) rfl ⟨rfl, (by repeat (first | exact Nw.refl _ | exact Nw.to (b := _) (by repeat (first | exact Nw.refl _ | assumption | apply Nw.alloc | apply Nw.drew | refine Nw.setCell ?_ (by simp <;> omega) _)) G.out | apply Nw.alloc | apply Nw.drew | refine Nw.setCell ?_ (by simp <;> omega) _))⟩
      · have H3 := Lib.hid (bne_iff_ne.2 z2)
        have H4 := Lib.hid (bne_iff_ne.2 e2)
        rw [liftF_mis _ _ _ _ (.inr ⟨z2, e2⟩)] at h
        clear z2 e2
        simp only [nulR, Prod.mk.injEq] at h
        obtain ⟨rfl, rfl, rfl, rfl, rfl⟩ := h
        go_enter Tryd.func32, Tryd.ntmps32
        go_wp2_with fail
        refine (lift_2a _ _ _ _ _ _ _ _ _ _ _ rfl H3.out H4.out).mono ?_
        rintro e w1 ⟨rfl, hb⟩
        obtain ⟨q1, q2⟩ := hb.at_ (w.heap.size + 2) (by simp <;> omega)
        have hz := hb.size
        (try simp at hz)
        have G := Lib.hid hb
        clear hb
        go_wp2_with fail
        exact bodyPost_ret (v := .tuple #[.agg #[.int .i64 0, .int .i64 0, .string E, .bool false], .string sMis]) (by simp [results, Tryd.results32, go_sem, q1]) rfl ⟨rfl, (by repeat (first | exact Nw.refl _ | exact Nw.to (b := _) (by repeat (first | exact Nw.refl _ | assumption | apply Nw.alloc | apply Nw.drew | refine Nw.setCell ?_ (by simp <;> omega) _)) G.out | apply Nw.alloc | apply Nw.drew | refine Nw.setCell ?_ (by simp <;> omega) _))⟩
  · by_cases e1 : k1 = 1
    · subst e1
      by_cases z2 : k2 = 0
      · subst z2
        rw [liftF_nul _ _ _ _ (by simp) (.inr rfl)] at h
        simp only [nulR, Prod.mk.injEq] at h
        obtain ⟨rfl, rfl, rfl, rfl, rfl⟩ := h
        go_enter Tryd.func32, Tryd.ntmps32
        go_wp2_with fail
        refine (lift_3c _ _ _ _ _ _ _ _ _ _ _ rfl rfl rfl rfl rfl).mono ?_
        rintro e w1 ⟨rfl, hb⟩
        obtain ⟨q1, q2⟩ := hb.at_ (w.heap.size + 2) (by simp <;> omega)
        have hz := hb.size
        (try simp at hz)
        have G := Lib.hid hb
        clear hb
        go_wp2_with fail
        exact bodyPost_ret (v := .tuple #[.agg #[.int .i64 0, .int .i64 0, .string E, .bool false], .string sDone]) (by simp [results, Tryd.results32, go_sem, q1]) rfl ⟨rfl, (by repeat (first | exact Nw.refl _ | exact Nw.to (b := _) (by repeat (first | exact Nw.refl _ | assumption | apply Nw.alloc | apply Nw.drew | refine Nw.setCell ?_ (by simp <;> omega) _)) G.out | apply Nw.alloc | apply Nw.drew | refine Nw.setCell ?_ (by simp <;> omega) _))⟩
      · by_cases e2 : k2 = 1
        · subst e2
          rw [liftF_do _ (by decide)] at h
          have HD := Lib.hid h
          clear h z1 z2
          go_enter Tryd.func32, Tryd.ntmps32
          go_wp2_with fail
          refine (lift_4_60 _ _ _ _ _ _ _ _ _ _ _ _ _ _ _ _ _ rfl rfl rfl rfl rfl rfl (fun W hW => sub_do _ _ _ _ W ((hW.at_ (w.heap.size) (by simp <;> omega)).1 1 |>.trans (by simp [go_sem])) ((hW.at_ (w.heap.size + 1) (by simp <;> omega)).1 1 |>.trans (by simp [go_sem])) _ _ _ _ _ HD.out)).mono ?_
          rintro e w1 ⟨rfl, hb⟩
          obtain ⟨q1, q2⟩ := hb.at_ (w.heap.size + 2) (by simp <;> omega)
          have hz := hb.size
          (try simp at hz)
          have G := Lib.hid hb
          clear hb
          go_wp2_with fail
          exact bodyPost_ret (v := .tuple #[.agg #[.int .i64 r1, .int .i64 r2, .string r3, .bool r4], .string r5]) (by simp [results, Tryd.results32, go_sem, q1]) rfl ⟨rfl, (by repeat (first | exact Nw.refl _ | exact Nw.to (b := _) (by repeat (first | exact Nw.refl _ | assumption | apply Nw.alloc | apply Nw.drew | refine Nw.setCell ?_ (by simp <;> omega) _)) G.out | apply Nw.alloc | apply Nw.drew | refine Nw.setCell ?_ (by simp <;> omega) _))⟩
        · have H3 := Lib.hid (bne_iff_ne.2 z2)
          have H4 := Lib.hid (bne_iff_ne.2 e2)
          rw [liftF_mis _ _ _ _ (.inr ⟨z2, e2⟩)] at h
          clear z2 e2
          simp only [nulR, Prod.mk.injEq] at h
          obtain ⟨rfl, rfl, rfl, rfl, rfl⟩ := h
          go_enter Tryd.func32, Tryd.ntmps32
          go_wp2_with fail
          refine (lift_2b _ _ _ _ _ _ _ _ _ _ _ rfl rfl H3.out H4.out).mono ?_
          rintro e w1 ⟨rfl, hb⟩
          obtain ⟨q1, q2⟩ := hb.at_ (w.heap.size + 2) (by simp <;> omega)
          have hz := hb.size
          (try simp at hz)
          have G := Lib.hid hb
          clear hb
          go_wp2_with fail
          exact bodyPost_ret (v := .tuple #[.agg #[.int .i64 0, .int .i64 0, .string E, .bool false], .string sMis]) (by simp [results, Tryd.results32, go_sem, q1]) rfl ⟨rfl, (by repeat (first | exact Nw.refl _ | exact Nw.to (b := _) (by repeat (first | exact Nw.refl _ | assumption | apply Nw.alloc | apply Nw.drew | refine Nw.setCell ?_ (by simp <;> omega) _)) G.out | apply Nw.alloc | apply Nw.drew | refine Nw.setCell ?_ (by simp <;> omega) _))⟩
    · have H1 := Lib.hid (bne_iff_ne.2 z1)
      have H2 := Lib.hid (bne_iff_ne.2 e1)
      rw [liftF_mis _ _ _ _ (.inl ⟨z1, e1⟩)] at h
      clear z1 e1
      simp only [nulR, Prod.mk.injEq] at h
      obtain ⟨rfl, rfl, rfl, rfl, rfl⟩ := h
      go_enter Tryd.func32, Tryd.ntmps32
      go_wp2_with fail
      refine (lift_1 _ _ _ _ _ _ _ _ _ _ _ H1.out H2.out).mono ?_
      rintro e w1 ⟨rfl, hb⟩
      obtain ⟨q1, q2⟩ := hb.at_ (w.heap.size + 2) (by simp <;> omega)
      have hz := hb.size
      (try simp at hz)
      have G := Lib.hid hb
      clear hb
      go_wp2_with fail
      exact bodyPost_ret (v := .tuple #[.agg #[.int .i64 0, .int .i64 0, .string E, .bool false], .string sMis]) (by simp [results, Tryd.results32, go_sem, q1]) rfl ⟨rfl, (by repeat (first | exact Nw.refl _ | exact Nw.to (b := _) (by repeat (first | exact Nw.refl _ | assumption | apply Nw.alloc | apply Nw.drew | refine Nw.setCell ?_ (by simp <;> omega) _)) G.out | apply Nw.alloc | apply Nw.drew | refine Nw.setCell ?_ (by simp <;> omega) _))⟩
end Vl
end Go.Proofs.YtlmkhpgnkpgbdaaDoor

namespace Go.Proofs.YtlmkhpgnkpgbdaaDoor
open Go.RowKit
set_option linter.unusedVariables false
set_option linter.unusedSimpArgs false
namespace Vl
set_option maxHeartbeats 4000000 in
set_option maxRecDepth 100000 in
theorem div_raw (k1 n1 : Int) (s1 : ByteArray) (b1 : Bool) (k2 n2 : Int) (s2 : ByteArray) (b2 : Bool) (r1 r2 : Int) (r3 : ByteArray) (r4 : Bool) (r5 : ByteArray) (w : World) (h : liftF 1 k1 k2 (divF n1 n2) = (r1, r2, r3, r4, r5)) : Calls Tryd.prog 33 #[.agg #[.int .i64 k1, .int .i64 n1, .string s1, .bool b1], .agg #[.int .i64 k2, .int .i64 n2, .string s2, .bool b2]] w fun e w' => e = .returned (.tuple #[.agg #[.int .i64 r1, .int .i64 r2, .string r3, .bool r4], .string r5]) ∧ Nw w w' := by
  by_cases z1 : k1 = 0
  · subst z1
    by_cases z2 : k2 = 0
    · subst z2
      rw [liftF_nul _ _ _ _ (by simp) (.inl rfl)] at h
      simp only [nulR, Prod.mk.injEq] at h
      obtain ⟨rfl, rfl, rfl, rfl, rfl⟩ := h
      go_enter Tryd.func33, Tryd.ntmps33
      go_wp2_with fail
      refine (lift_3a _ _ _ _ _ _ _ _ _ _ _ rfl rfl rfl).mono ?_
      rintro e w1 ⟨rfl, hb⟩
      obtain ⟨q1, q2⟩ := hb.at_ (w.heap.size + 2) (by simp <;> omega)
      have hz := hb.size
      (try simp at hz)
      have G := Lib.hid hb
      clear hb
      go_wp2_with fail
      exact bodyPost_ret (v := .tuple #[.agg #[.int .i64 0, .int .i64 0, .string E, .bool false], .string sDone]) (by simp [results, Tryd.results33, go_sem, q1]) rfl ⟨rfl, (by repeat (first | exact Nw.refl _ | exact Nw.to (b := _) (by repeat (first | exact Nw.refl _ | assumption | apply Nw.alloc | apply Nw.drew | refine Nw.setCell ?_ (by simp <;> omega) _)) G.out | apply Nw.alloc | apply Nw.drew | refine Nw.setCell ?_ (by simp <;> omega) _))⟩
    · by_cases e2 : k2 = 1
      · subst e2
        rw [liftF_nul _ _ _ _ (by simp) (.inl rfl)] at h
        simp only [nulR, Prod.mk.injEq] at h
        obtain ⟨rfl, rfl, rfl, rfl, rfl⟩ := h
        go_enter Tryd.func33, Tryd.ntmps33
        go_wp2_with fail
        refine (lift_3b _ _ _ _ _ _ _ _ _ _ _ rfl rfl rfl rfl).mono ?_
        rintro e w1 ⟨rfl, hb⟩
        obtain ⟨q1, q2⟩ := hb.at_ (w.heap.size + 2) (by simp <;> omega)
        have hz := hb.size
        (try simp at hz)
        have G := Lib.hid hb
        clear hb
        go_wp2_with fail
        exact bodyPost_ret (v := .tuple #[.agg #[.int .i64 0, .int .i64 0, .string E, .bool false], .string sDone]) (by simp [results, Tryd.results33, go_sem, q1]) rfl ⟨rfl, (by repeat (first | exact Nw.refl _ | exact Nw.to (b := _) (by repeat (first | exact Nw.refl _ | assumption | apply Nw.alloc | apply Nw.drew | refine Nw.setCell ?_ (by simp <;> omega) _)) G.out | apply Nw.alloc | apply Nw.drew | refine Nw.setCell ?_ (by simp <;> omega) _))⟩
      · have H3 := Lib.hid (bne_iff_ne.2 z2)
        have H4 := Lib.hid (bne_iff_ne.2 e2)
        rw [liftF_mis _ _ _ _ (.inr ⟨z2, e2⟩)] at h
        clear z2 e2
        simp only [nulR, Prod.mk.injEq] at h
        obtain ⟨rfl, rfl, rfl, rfl, rfl⟩ := h
        go_enter Tryd.func33, Tryd.ntmps33
        go_wp2_with fail
        refine (lift_2a _ _ _ _ _ _ _ _ _ _ _ rfl H3.out H4.out).mono ?_
        rintro e w1 ⟨rfl, hb⟩
        obtain ⟨q1, q2⟩ := hb.at_ (w.heap.size + 2) (by simp <;> omega)
        have hz := hb.size
        (try simp at hz)
        have G := Lib.hid hb
        clear hb
        go_wp2_with fail
        exact bodyPost_ret (v := .tuple #[.agg #[.int .i64 0, .int .i64 0, .string E, .bool false], .string sMis]) (by simp [results, Tryd.results33, go_sem, q1]) rfl ⟨rfl, (by repeat (first | exact Nw.refl _ | exact Nw.to (b := _) (by repeat (first | exact Nw.refl _ | assumption | apply Nw.alloc | apply Nw.drew | refine Nw.setCell ?_ (by simp <;> omega) _)) G.out | apply Nw.alloc | apply Nw.drew | refine Nw.setCell ?_ (by simp <;> omega) _))⟩
  · by_cases e1 : k1 = 1
    · subst e1
      by_cases z2 : k2 = 0
      · subst z2
        rw [liftF_nul _ _ _ _ (by simp) (.inr rfl)] at h
        simp only [nulR, Prod.mk.injEq] at h
        obtain ⟨rfl, rfl, rfl, rfl, rfl⟩ := h
        go_enter Tryd.func33, Tryd.ntmps33
        go_wp2_with fail
        refine (lift_3c _ _ _ _ _ _ _ _ _ _ _ rfl rfl rfl rfl rfl).mono ?_
        rintro e w1 ⟨rfl, hb⟩
        obtain ⟨q1, q2⟩ := hb.at_ (w.heap.size + 2) (by simp <;> omega)
        have hz := hb.size
        (try simp at hz)
        have G := Lib.hid hb
        clear hb
        go_wp2_with fail
        exact bodyPost_ret (v := .tuple #[.agg #[.int .i64 0, .int .i64 0, .string E, .bool false], .string sDone]) (by simp [results, Tryd.results33, go_sem, q1]) rfl ⟨rfl, (by repeat (first | exact Nw.refl _ | exact Nw.to (b := _) (by repeat (first | exact Nw.refl _ | assumption | apply Nw.alloc | apply Nw.drew | refine Nw.setCell ?_ (by simp <;> omega) _)) G.out | apply Nw.alloc | apply Nw.drew | refine Nw.setCell ?_ (by simp <;> omega) _))⟩
      · by_cases e2 : k2 = 1
        · subst e2
          rw [liftF_do _ (by decide)] at h
          have HD := Lib.hid h
          clear h z1 z2
          go_enter Tryd.func33, Tryd.ntmps33
          go_wp2_with fail
          refine (lift_4_61 _ _ _ _ _ _ _ _ _ _ _ _ _ _ _ _ _ rfl rfl rfl rfl rfl rfl (fun W hW => div_do _ _ _ _ W ((hW.at_ (w.heap.size + 1) (by simp <;> omega)).1 1 |>.trans (by simp [go_sem])) ((hW.at_ (w.heap.size) (by simp <;> omega)).1 1 |>.trans (by simp [go_sem])) _ _ _ _ _ HD.out)).mono ?_
          rintro e w1 ⟨rfl, hb⟩
          obtain ⟨q1, q2⟩ := hb.at_ (w.heap.size + 2) (by simp <;> omega)
          have hz := hb.size
          (try simp at hz)
          have G := Lib.hid hb
          clear hb
          go_wp2_with fail
          exact bodyPost_ret (v := .tuple #[.agg #[.int .i64 r1, .int .i64 r2, .string r3, .bool r4], .string r5]) (by simp [results, Tryd.results33, go_sem, q1]) rfl ⟨rfl, (by repeat (first | exact Nw.refl _ | exact Nw.to (b := _) (by repeat (first | exact Nw.refl _ | assumption | apply Nw.alloc | apply Nw.drew | refine Nw.setCell ?_ (by simp <;> omega) _)) G.out | apply Nw.alloc | apply Nw.drew | refine Nw.setCell ?_ (by simp <;> omega) _))⟩
        · have H3 := Lib.hid (bne_iff_ne.2 z2)
          have H4 := Lib.hid (bne_iff_ne.2 e2)
          rw [liftF_mis _ _ _ _ (.inr ⟨z2, e2⟩)] at h
          clear z2 e2
          simp only [nulR, Prod.mk.injEq] at h
          obtain ⟨rfl, rfl, rfl, rfl, rfl⟩ := h
          go_enter Tryd.func33, Tryd.ntmps33
          go_wp2_with fail
          refine (lift_2b _ _ _ _ _ _ _ _ _ _ _ rfl rfl H3.out H4.out).mono ?_
          rintro e w1 ⟨rfl, hb⟩
          obtain ⟨q1, q2⟩ := hb.at_ (w.heap.size + 2) (by simp <;> omega)
          have hz := hb.size
          (try simp at hz)
          have G := Lib.hid hb
          clear hb
          go_wp2_with fail
          exact bodyPost_ret (v := .tuple #[.agg #[.int .i64 0, .int .i64 0, .string E, .bool false], .string sMis]) (by simp [results, Tryd.results33, go_sem, q1]) rfl ⟨rfl, (by repeat (first | exact Nw.refl _ | exact Nw.to (b := _) (by repeat (first | exact Nw.refl _ | assumption | apply Nw.alloc | apply Nw.drew | refine Nw.setCell ?_ (by simp <;> omega) _)) G.out | apply Nw.alloc | apply Nw.drew | refine Nw.setCell ?_ (by simp <;> omega) _))⟩
    · have H1 := Lib.hid (bne_iff_ne.2 z1)
      have H2 := Lib.hid (bne_iff_ne.2 e1)
      rw [liftF_mis _ _ _ _ (.inl ⟨z1, e1⟩)] at h
      clear z1 e1
      simp only [nulR, Prod.mk.injEq] at h
      obtain ⟨rfl, rfl, rfl, rfl, rfl⟩ := h
      go_enter Tryd.func33, Tryd.ntmps33
      go_wp2_with fail
      refine (lift_1 _ _ _ _ _ _ _ _ _ _ _ H1.out H2.out).mono ?_
      rintro e w1 ⟨rfl, hb⟩
      obtain ⟨q1, q2⟩ := hb.at_ (w.heap.size + 2) (by simp <;> omega)
      have hz := hb.size
      (try simp at hz)
      have G := Lib.hid hb
      clear hb
      go_wp2_with fail
      exact bodyPost_ret (v := .tuple #[.agg #[.int .i64 0, .int .i64 0, .string E, .bool false], .string sMis]) (by simp [results, Tryd.results33, go_sem, q1]) rfl ⟨rfl, (by repeat (first | exact Nw.refl _ | exact Nw.to (b := _) (by repeat (first | exact Nw.refl _ | assumption | apply Nw.alloc | apply Nw.drew | refine Nw.setCell ?_ (by simp <;> omega) _)) G.out | apply Nw.alloc | apply Nw.drew | refine Nw.setCell ?_ (by simp <;> omega) _))⟩
set_option maxHeartbeats 4000000 in
set_option maxRecDepth 100000 in
theorem mul_raw (k1 n1 : Int) (s1 : ByteArray) (b1 : Bool) (k2 n2 : Int) (s2 : ByteArray) (b2 : Bool) (r1 r2 : Int) (r3 : ByteArray) (r4 : Bool) (r5 : ByteArray) (w : World) (f1 : Fit n1) (f2 : Fit n2) (h : liftF 1 k1 k2 (mulF n1 n2) = (r1, r2, r3, r4, r5)) : Calls Tryd.prog 34 #[.agg #[.int .i64 k1, .int .i64 n1, .string s1, .bool b1], .agg #[.int .i64 k2, .int .i64 n2, .string s2, .bool b2]] w fun e w' => e = .returned (.tuple #[.agg #[.int .i64 r1, .int .i64 r2, .string r3, .bool r4], .string r5]) ∧ Nw w w' := by
  have HF1 := Lib.hid f1
  have HF2 := Lib.hid f2
  clear f1 f2
  by_cases z1 : k1 = 0
  · subst z1
    by_cases z2 : k2 = 0
    · subst z2
      rw [liftF_nul _ _ _ _ (by simp) (.inl rfl)] at h
      simp only [nulR, Prod.mk.injEq] at h
      obtain ⟨rfl, rfl, rfl, rfl, rfl⟩ := h
      go_enter Tryd.func34, Tryd.ntmps34
      go_wp2_with fail
      refine (lift_3a _ _ _ _ _ _ _ _ _ _ _ rfl rfl rfl).mono ?_
      rintro e w1 ⟨rfl, hb⟩
      obtain ⟨q1, q2⟩ := hb.at_ (w.heap.size + 2) (by simp <;> omega)
      have hz := hb.size
      (try simp at hz)
      have G := Lib.hid hb
      clear hb
      go_wp2_with fail
      exact bodyPost_ret (v := .tuple #[.agg #[.int .i64 0, .int .i64 0, .string E, .bool false], .string sDone]) (by simp [results, Tryd.results34, go_sem, q1]) rfl ⟨rfl, (by repeat (first | exact Nw.refl _ | exact Nw.to (b := _) (by repeat (first | exact Nw.refl _ | assumption | apply Nw.alloc | apply Nw.drew | refine Nw.setCell ?_ (by simp <;> omega) _)) G.out | apply Nw.alloc | apply Nw.drew | refine Nw.setCell ?_ (by simp <;> omega) _))⟩
    · by_cases e2 : k2 = 1
      · subst e2
        rw [liftF_nul _ _ _ _ (by simp) (.inl rfl)] at h
        simp only [nulR, Prod.mk.injEq] at h
        obtain ⟨rfl, rfl, rfl, rfl, rfl⟩ := h
        go_enter Tryd.func34, Tryd.ntmps34
        go_wp2_with fail
        refine (lift_3b _ _ _ _ _ _ _ _ _ _ _ rfl rfl rfl rfl).mono ?_
        rintro e w1 ⟨rfl, hb⟩
        obtain ⟨q1, q2⟩ := hb.at_ (w.heap.size + 2) (by simp <;> omega)
        have hz := hb.size
        (try simp at hz)
        have G := Lib.hid hb
        clear hb
        go_wp2_with fail
        exact bodyPost_ret (v := .tuple #[.agg #[.int .i64 0, .int .i64 0, .string E, .bool false], .string sDone]) (by simp [results, Tryd.results34, go_sem, q1]) rfl ⟨rfl, (by repeat (first | exact Nw.refl _ | exact Nw.to (b := _) (by repeat (first | exact Nw.refl _ | assumption | apply Nw.alloc | apply Nw.drew | refine Nw.setCell ?_ (by simp <;> omega) _)) G.out | apply Nw.alloc | apply Nw.drew | refine Nw.setCell ?_ (by simp <;> omega) _))⟩
      · have H3 := Lib.hid (bne_iff_ne.2 z2)
        have H4 := Lib.hid (bne_iff_ne.2 e2)
        rw [liftF_mis _ _ _ _ (.inr ⟨z2, e2⟩)] at h
        clear z2 e2
        simp only [nulR, Prod.mk.injEq] at h
        obtain ⟨rfl, rfl, rfl, rfl, rfl⟩ := h
        go_enter Tryd.func34, Tryd.ntmps34
        go_wp2_with fail
        refine (lift_2a _ _ _ _ _ _ _ _ _ _ _ rfl H3.out H4.out).mono ?_
        rintro e w1 ⟨rfl, hb⟩
        obtain ⟨q1, q2⟩ := hb.at_ (w.heap.size + 2) (by simp <;> omega)
        have hz := hb.size
        (try simp at hz)
        have G := Lib.hid hb
        clear hb
        go_wp2_with fail
        exact bodyPost_ret (v := .tuple #[.agg #[.int .i64 0, .int .i64 0, .string E, .bool false], .string sMis]) (by simp [results, Tryd.results34, go_sem, q1]) rfl ⟨rfl, (by repeat (first | exact Nw.refl _ | exact Nw.to (b := _) (by repeat (first | exact Nw.refl _ | assumption | apply Nw.alloc | apply Nw.drew | refine Nw.setCell ?_ (by simp <;> omega) _)) G.out | apply Nw.alloc | apply Nw.drew | refine Nw.setCell ?_ (by simp <;> omega) _))⟩
  · by_cases e1 : k1 = 1
    · subst e1
      by_cases z2 : k2 = 0
      · subst z2
        rw [liftF_nul _ _ _ _ (by simp) (.inr rfl)] at h
        simp only [nulR, Prod.mk.injEq] at h
        obtain ⟨rfl, rfl, rfl, rfl, rfl⟩ := h
        go_enter Tryd.func34, Tryd.ntmps34
        go_wp2_with fail
        refine (lift_3c _ _ _ _ _ _ _ _ _ _ _ rfl rfl rfl rfl rfl).mono ?_
        rintro e w1 ⟨rfl, hb⟩
        obtain ⟨q1, q2⟩ := hb.at_ (w.heap.size + 2) (by simp <;> omega)
        have hz := hb.size
        (try simp at hz)
        have G := Lib.hid hb
        clear hb
        go_wp2_with fail
        exact bodyPost_ret (v := .tuple #[.agg #[.int .i64 0, .int .i64 0, .string E, .bool false], .string sDone]) (by simp [results, Tryd.results34, go_sem, q1]) rfl ⟨rfl, (by repeat (first | exact Nw.refl _ | exact Nw.to (b := _) (by repeat (first | exact Nw.refl _ | assumption | apply Nw.alloc | apply Nw.drew | refine Nw.setCell ?_ (by simp <;> omega) _)) G.out | apply Nw.alloc | apply Nw.drew | refine Nw.setCell ?_ (by simp <;> omega) _))⟩
      · by_cases e2 : k2 = 1
        · subst e2
          rw [liftF_do _ (by decide)] at h
          have HD := Lib.hid h
          clear h z1 z2
          go_enter Tryd.func34, Tryd.ntmps34
          go_wp2_with fail
          refine (lift_4_62 _ _ _ _ _ _ _ _ _ _ _ _ _ _ _ _ _ rfl rfl rfl rfl rfl rfl (fun W hW => mul_do _ _ _ _ W ((hW.at_ (w.heap.size) (by simp <;> omega)).1 1 |>.trans (by simp [go_sem])) ((hW.at_ (w.heap.size + 1) (by simp <;> omega)).1 1 |>.trans (by simp [go_sem])) HF1.out HF2.out _ _ _ _ _ HD.out)).mono ?_
          rintro e w1 ⟨rfl, hb⟩
          obtain ⟨q1, q2⟩ := hb.at_ (w.heap.size + 2) (by simp <;> omega)
          have hz := hb.size
          (try simp at hz)
          have G := Lib.hid hb
          clear hb
          go_wp2_with fail
          exact bodyPost_ret (v := .tuple #[.agg #[.int .i64 r1, .int .i64 r2, .string r3, .bool r4], .string r5]) (by simp [results, Tryd.results34, go_sem, q1]) rfl ⟨rfl, (by repeat (first | exact Nw.refl _ | exact Nw.to (b := _) (by repeat (first | exact Nw.refl _ | assumption | apply Nw.alloc | apply Nw.drew | refine Nw.setCell ?_ (by simp <;> omega) _)) G.out | apply Nw.alloc | apply Nw.drew | refine Nw.setCell ?_ (by simp <;> omega) _))⟩
        · have H3 := Lib.hid (bne_iff_ne.2 z2)
          have H4 := Lib.hid (bne_iff_ne.2 e2)
          rw [liftF_mis _ _ _ _ (.inr ⟨z2, e2⟩)] at h
          clear z2 e2
          simp only [nulR, Prod.mk.injEq] at h
          obtain ⟨rfl, rfl, rfl, rfl, rfl⟩ := h
          go_enter Tryd.func34, Tryd.ntmps34
          go_wp2_with fail
          refine (lift_2b _ _ _ _ _ _ _ _ _ _ _ rfl rfl H3.out H4.out).mono ?_
          rintro e w1 ⟨rfl, hb⟩
          obtain ⟨q1, q2⟩ := hb.at_ (w.heap.size + 2) (by simp <;> omega)
          have hz := hb.size
          (try simp at hz)
          have G := Lib.hid hb
          clear hb
          go_wp2_with fail
          exact bodyPost_ret (v := .tuple #[.agg #[.int .i64 0, .int .i64 0, .string E, .bool false], .string sMis]) (by simp [results, Tryd.results34, go_sem, q1]) rfl ⟨rfl, (by repeat (first | exact Nw.refl _ | exact Nw.to (b := _) (by repeat (first | exact Nw.refl _ | assumption | apply Nw.alloc | apply Nw.drew | refine Nw.setCell ?_ (by simp <;> omega) _)) G.out | apply Nw.alloc | apply Nw.drew | refine Nw.setCell ?_ (by simp <;> omega) _))⟩
    · have H1 := Lib.hid (bne_iff_ne.2 z1)
      have H2 := Lib.hid (bne_iff_ne.2 e1)
      rw [liftF_mis _ _ _ _ (.inl ⟨z1, e1⟩)] at h
      clear z1 e1
      simp only [nulR, Prod.mk.injEq] at h
      obtain ⟨rfl, rfl, rfl, rfl, rfl⟩ := h
      go_enter Tryd.func34, Tryd.ntmps34
      go_wp2_with fail
      refine (lift_1 _ _ _ _ _ _ _ _ _ _ _ H1.out H2.out).mono ?_
      rintro e w1 ⟨rfl, hb⟩
      obtain ⟨q1, q2⟩ := hb.at_ (w.heap.size + 2) (by simp <;> omega)
      have hz := hb.size
      (try simp at hz)
      have G := Lib.hid hb
      clear hb
      go_wp2_with fail
      exact bodyPost_ret (v := .tuple #[.agg #[.int .i64 0, .int .i64 0, .string E, .bool false], .string sMis]) (by simp [results, Tryd.results34, go_sem, q1]) rfl ⟨rfl, (by repeat (first | exact Nw.refl _ | exact Nw.to (b := _) (by repeat (first | exact Nw.refl _ | assumption | apply Nw.alloc | apply Nw.drew | refine Nw.setCell ?_ (by simp <;> omega) _)) G.out | apply Nw.alloc | apply Nw.drew | refine Nw.setCell ?_ (by simp <;> omega) _))⟩
end Vl
end Go.Proofs.YtlmkhpgnkpgbdaaDoor

namespace Go.Proofs.YtlmkhpgnkpgbdaaDoor
open Go.RowKit
set_option linter.unusedVariables false
set_option linter.unusedSimpArgs false
namespace Vl
set_option maxHeartbeats 4000000 in
set_option maxRecDepth 100000 in
theorem con_raw (k1 n1 : Int) (s1 : ByteArray) (b1 : Bool) (k2 n2 : Int) (s2 : ByteArray) (b2 : Bool) (r1 r2 : Int) (r3 : ByteArray) (r4 : Bool) (r5 : ByteArray) (w : World) (f1 : s1.size ≤ 140737488351232) (f2 : s2.size ≤ 140737488351232) (h : liftF 2 k1 k2 (conF s1 s2) = (r1, r2, r3, r4, r5)) : Calls Tryd.prog 21 #[.agg #[.int .i64 k1, .int .i64 n1, .string s1, .bool b1], .agg #[.int .i64 k2, .int .i64 n2, .string s2, .bool b2]] w fun e w' => e = .returned (.tuple #[.agg #[.int .i64 r1, .int .i64 r2, .string r3, .bool r4], .string r5]) ∧ Nw w w' := by
  have HF1 := Lib.hid f1
  have HF2 := Lib.hid f2
  clear f1 f2
  by_cases z1 : k1 = 0
  · subst z1
    by_cases z2 : k2 = 0
    · subst z2
      rw [liftF_nul _ _ _ _ (by simp) (.inl rfl)] at h
      simp only [nulR, Prod.mk.injEq] at h
      obtain ⟨rfl, rfl, rfl, rfl, rfl⟩ := h
      go_enter Tryd.func21, Tryd.ntmps21
      go_wp2_with fail
      refine (lift_3a _ _ _ _ _ _ _ _ _ _ _ rfl rfl rfl).mono ?_
      rintro e w1 ⟨rfl, hb⟩
      obtain ⟨q1, q2⟩ := hb.at_ (w.heap.size + 2) (by simp <;> omega)
      have hz := hb.size
      (try simp at hz)
      have G := Lib.hid hb
      clear hb
      go_wp2_with fail
      exact bodyPost_ret (v := .tuple #[.agg #[.int .i64 0, .int .i64 0, .string E, .bool false], .string sDone]) (by simp [results, Tryd.results21, go_sem, q1]) rfl ⟨rfl, (by repeat (first | exact Nw.refl _ | exact Nw.to (b := _) (by repeat (first | exact Nw.refl _ | assumption | apply Nw.alloc | apply Nw.drew | refine Nw.setCell ?_ (by simp <;> omega) _)) G.out | apply Nw.alloc | apply Nw.drew | refine Nw.setCell ?_ (by simp <;> omega) _))⟩
    · by_cases e2 : k2 = 2
      · subst e2
        rw [liftF_nul _ _ _ _ (by simp) (.inl rfl)] at h
        simp only [nulR, Prod.mk.injEq] at h
        obtain ⟨rfl, rfl, rfl, rfl, rfl⟩ := h
        go_enter Tryd.func21, Tryd.ntmps21
        go_wp2_with fail
        refine (lift_3b _ _ _ _ _ _ _ _ _ _ _ rfl rfl rfl rfl).mono ?_
        rintro e w1 ⟨rfl, hb⟩
        obtain ⟨q1, q2⟩ := hb.at_ (w.heap.size + 2) (by simp <;> omega)
        have hz := hb.size
        (try simp at hz)
        have G := Lib.hid hb
        clear hb
        go_wp2_with fail
        exact bodyPost_ret (v := .tuple #[.agg #[.int .i64 0, .int .i64 0, .string E, .bool false], .string sDone]) (by simp [results, Tryd.results21, go_sem, q1]) rfl ⟨rfl, (by repeat (first | exact Nw.refl _ | exact Nw.to (b := _) (by repeat (first | exact Nw.refl _ | assumption | apply Nw.alloc | apply Nw.drew | refine Nw.setCell ?_ (by simp <;> omega) _)) G.out | apply Nw.alloc | apply Nw.drew | refine Nw.setCell ?_ (by simp <;> omega) _))⟩
      · have H3 := Lib.hid (bne_iff_ne.2 z2)
        have H4 := Lib.hid (bne_iff_ne.2 e2)
        rw [liftF_mis _ _ _ _ (.inr ⟨z2, e2⟩)] at h
        clear z2 e2
        simp only [nulR, Prod.mk.injEq] at h
        obtain ⟨rfl, rfl, rfl, rfl, rfl⟩ := h
        go_enter Tryd.func21, Tryd.ntmps21
        go_wp2_with fail
        refine (lift_2a _ _ _ _ _ _ _ _ _ _ _ rfl H3.out H4.out).mono ?_
        rintro e w1 ⟨rfl, hb⟩
        obtain ⟨q1, q2⟩ := hb.at_ (w.heap.size + 2) (by simp <;> omega)
        have hz := hb.size
        (try simp at hz)
        have G := Lib.hid hb
        clear hb
        go_wp2_with fail
        exact bodyPost_ret (v := .tuple #[.agg #[.int .i64 0, .int .i64 0, .string E, .bool false], .string sMis]) (by simp [results, Tryd.results21, go_sem, q1]) rfl ⟨rfl, (by repeat (first | exact Nw.refl _ | exact Nw.to (b := _) (by repeat (first | exact Nw.refl _ | assumption | apply Nw.alloc | apply Nw.drew | refine Nw.setCell ?_ (by simp <;> omega) _)) G.out | apply Nw.alloc | apply Nw.drew | refine Nw.setCell ?_ (by simp <;> omega) _))⟩
  · by_cases e1 : k1 = 2
    · subst e1
      by_cases z2 : k2 = 0
      · subst z2
        rw [liftF_nul _ _ _ _ (by simp) (.inr rfl)] at h
        simp only [nulR, Prod.mk.injEq] at h
        obtain ⟨rfl, rfl, rfl, rfl, rfl⟩ := h
        go_enter Tryd.func21, Tryd.ntmps21
        go_wp2_with fail
        refine (lift_3c _ _ _ _ _ _ _ _ _ _ _ rfl rfl rfl rfl rfl).mono ?_
        rintro e w1 ⟨rfl, hb⟩
        obtain ⟨q1, q2⟩ := hb.at_ (w.heap.size + 2) (by simp <;> omega)
        have hz := hb.size
        (try simp at hz)
        have G := Lib.hid hb
        clear hb
        go_wp2_with fail
        exact bodyPost_ret (v := .tuple #[.agg #[.int .i64 0, .int .i64 0, .string E, .bool false], .string sDone]) (by simp [results, Tryd.results21, go_sem, q1]) rfl ⟨rfl, (by repeat (first | exact Nw.refl _ | exact Nw.to (b := _) (by repeat (first | exact Nw.refl _ | assumption | apply Nw.alloc | apply Nw.drew | refine Nw.setCell ?_ (by simp <;> omega) _)) G.out | apply Nw.alloc | apply Nw.drew | refine Nw.setCell ?_ (by simp <;> omega) _))⟩
      · by_cases e2 : k2 = 2
        · subst e2
          rw [liftF_do _ (by decide)] at h
          have HD := Lib.hid h
          clear h z1 z2
          go_enter Tryd.func21, Tryd.ntmps21
          go_wp2_with fail
          refine (lift_4_54 _ _ _ _ _ _ _ _ _ _ _ _ _ _ _ _ _ rfl rfl rfl rfl rfl rfl (fun W hW => con_do _ _ _ _ W ((hW.at_ (w.heap.size) (by simp <;> omega)).1 2 |>.trans (by simp [go_sem])) ((hW.at_ (w.heap.size + 1) (by simp <;> omega)).1 2 |>.trans (by simp [go_sem])) HF1.out HF2.out _ _ _ _ _ HD.out)).mono ?_
          rintro e w1 ⟨rfl, hb⟩
          obtain ⟨q1, q2⟩ := hb.at_ (w.heap.size + 2) (by simp <;> omega)
          have hz := hb.size
          (try simp at hz)
          have G := Lib.hid hb
          clear hb
          go_wp2_with fail
          exact bodyPost_ret (v := .tuple #[.agg #[.int .i64 r1, .int .i64 r2, .string r3, .bool r4], .string r5]) (by simp [results, Tryd.results21, go_sem, q1]) rfl ⟨rfl, (by repeat (first | exact Nw.refl _ | exact Nw.to (b := _) (by repeat (first | exact Nw.refl _ | assumption | apply Nw.alloc | apply Nw.drew | refine Nw.setCell ?_ (by simp <;> omega) _)) G.out | apply Nw.alloc | apply Nw.drew | refine Nw.setCell ?_ (by simp <;> omega) _))⟩
        · have H3 := Lib.hid (bne_iff_ne.2 z2)
          have H4 := Lib.hid (bne_iff_ne.2 e2)
          rw [liftF_mis _ _ _ _ (.inr ⟨z2, e2⟩)] at h
          clear z2 e2
          simp only [nulR, Prod.mk.injEq] at h
          obtain ⟨rfl, rfl, rfl, rfl, rfl⟩ := h
          go_enter Tryd.func21, Tryd.ntmps21
          go_wp2_with fail
          refine (lift_2b _ _ _ _ _ _ _ _ _ _ _ rfl rfl H3.out H4.out).mono ?_
          rintro e w1 ⟨rfl, hb⟩
          obtain ⟨q1, q2⟩ := hb.at_ (w.heap.size + 2) (by simp <;> omega)
          have hz := hb.size
          (try simp at hz)
          have G := Lib.hid hb
          clear hb
          go_wp2_with fail
          exact bodyPost_ret (v := .tuple #[.agg #[.int .i64 0, .int .i64 0, .string E, .bool false], .string sMis]) (by simp [results, Tryd.results21, go_sem, q1]) rfl ⟨rfl, (by repeat (first | exact Nw.refl _ | exact Nw.to (b := _) (by repeat (first | exact Nw.refl _ | assumption | apply Nw.alloc | apply Nw.drew | refine Nw.setCell ?_ (by simp <;> omega) _)) G.out | apply Nw.alloc | apply Nw.drew | refine Nw.setCell ?_ (by simp <;> omega) _))⟩
    · have H1 := Lib.hid (bne_iff_ne.2 z1)
      have H2 := Lib.hid (bne_iff_ne.2 e1)
      rw [liftF_mis _ _ _ _ (.inl ⟨z1, e1⟩)] at h
      clear z1 e1
      simp only [nulR, Prod.mk.injEq] at h
      obtain ⟨rfl, rfl, rfl, rfl, rfl⟩ := h
      go_enter Tryd.func21, Tryd.ntmps21
      go_wp2_with fail
      refine (lift_1 _ _ _ _ _ _ _ _ _ _ _ H1.out H2.out).mono ?_
      rintro e w1 ⟨rfl, hb⟩
      obtain ⟨q1, q2⟩ := hb.at_ (w.heap.size + 2) (by simp <;> omega)
      have hz := hb.size
      (try simp at hz)
      have G := Lib.hid hb
      clear hb
      go_wp2_with fail
      exact bodyPost_ret (v := .tuple #[.agg #[.int .i64 0, .int .i64 0, .string E, .bool false], .string sMis]) (by simp [results, Tryd.results21, go_sem, q1]) rfl ⟨rfl, (by repeat (first | exact Nw.refl _ | exact Nw.to (b := _) (by repeat (first | exact Nw.refl _ | assumption | apply Nw.alloc | apply Nw.drew | refine Nw.setCell ?_ (by simp <;> omega) _)) G.out | apply Nw.alloc | apply Nw.drew | refine Nw.setCell ?_ (by simp <;> omega) _))⟩
end Vl
end Go.Proofs.YtlmkhpgnkpgbdaaDoor

namespace Go.Proofs.YtlmkhpgnkpgbdaaDoor
open Go.RowKit
set_option linter.unusedVariables false
set_option linter.unusedSimpArgs false
namespace Vl
/-- how much of the first n bytes is left without the c at their end -/
def trimN (s : ByteArray) (c : Int) : Nat → Nat
  | 0 => 0
  | n + 1 => if h : n < s.size then (if (s[n].toNat : Int) = c then trimN s c n else n + 1) else n + 1
theorem trimN_le (s : ByteArray) (c : Int) : ∀ n, trimN s c n ≤ n
  | 0 => Nat.le_refl _
  | n + 1 => by
    have := trimN_le s c n
    unfold trimN
    split
    · split <;> omega
    · omega
theorem trimN_yes (s : ByteArray) (c : Int) (k : Nat) (h0 : 0 < k) (hk : k - 1 < s.size) (h : ((s[k - 1]'hk).toNat : Int) = c) : trimN s c k = trimN s c (k - 1) := by
  obtain ⟨j, rfl⟩ : ∃ j, k = j + 1 := ⟨k - 1, by omega⟩
  have hk' : j < s.size := by simpa using hk
  have h' : ((s[j]'hk').toNat : Int) = c := by simpa using h
  simp [trimN, hk', h']
theorem trimN_no (s : ByteArray) (c : Int) (k : Nat) (h0 : 0 < k) (hk : k - 1 < s.size) (h : ¬ ((s[k - 1]'hk).toNat : Int) = c) : trimN s c k = k := by
  obtain ⟨j, rfl⟩ : ∃ j, k = j + 1 := ⟨k - 1, by omega⟩
  have hk' : j < s.size := by simpa using hk
  have h' : ¬ ((s[j]'hk').toNat : Int) = c := by simpa using h
  simp [trimN, hk', h']
def trimR (s : ByteArray) (c : Int) : ByteArray := s.extract 0 (trimN s c s.size)
theorem rwords_any (s : ByteArray) (w : World) (hs : s.size ≤ 140737488351232) : Calls Tryd.prog 71 #[.string s] w fun e w' => e = .returned (.string (trimR s 32)) ∧ w = w' := by
  go_enter Tryd.func71, Tryd.ntmps71
  go_wp2
  go_loop [3] (fun v => ∃ k : Nat, k ≤ s.size ∧ v = .int .i64 k ∧ Hid (trimN s 32 k = trimN s 32 s.size)) (fun v => (intOf v).toNat)
  case atStart => exact ⟨s.size, Nat.le_refl _, rfl, rfl⟩
  case round =>
    obtain ⟨k, hk, rfl, ht⟩ := hrel
    by_cases h0 : 0 < k
    · have hk1 : k - 1 < s.size := by omega
      by_cases hc : ((s[k - 1]'hk1).toNat : Int) = 32
      · have hb : (((s[k - 1]'hk1).toNat : Int) == 32) = true := by rw [hc]; rfl
        have HT := Lib.hid (trimN_yes s 32 k h0 hk1 hc)
        clear hc
        go_wp2
        go_round
        case rel => exact ⟨k - 1, by omega, congrArg _ (by omega), HT.out.symm.trans ht.out⟩
        case measure => simp [intOf]; omega
      · have hb : (((s[k - 1]'hk1).toNat : Int) == 32) = false := beq_eq_false_iff_ne.2 hc
        have HT := Lib.hid (trimN_no s 32 k h0 hk1 hc)
        clear hc
        go_wp2
        go_ret
        exact ⟨by rw [trimR, ← ht.out, HT.out]; rfl, rfl⟩
    · go_wp2
      go_ret
      obtain rfl : k = 0 := by omega
      exact ⟨by rw [trimR, ← ht.out]; rfl, rfl⟩
theorem trimN_congr (s t : ByteArray) (c : Int) : ∀ n, (hs : n ≤ s.size) → (ht : n ≤ t.size) → (∀ i (hi : i < n), s[i]'(by omega) = t[i]'(by omega)) → trimN s c n = trimN t c n
  | 0, _, _, _ => rfl
  | n + 1, hs, ht, h => by
    have ih := trimN_congr s t c n (by omega) (by omega) (fun i hi => h i (by omega))
    have h1 : n < s.size := by omega
    have h2 : n < t.size := by omega
    simp only [trimN, h1, h2, dite_true, h n (by omega), ih]
theorem trimR_yes (x : ByteArray) (c : Int) (h0 : 0 < x.size) (h : ((x[x.size - 1]'(by omega)).toNat : Int) = c) : trimR (x.extract 0 (x.size - 1)) c = trimR x c := by
  have hz : (x.extract 0 (x.size - 1)).size = x.size - 1 := by rw [ByteArray.size_extract]; omega
  unfold trimR
  rw [hz, trimN_yes x c x.size h0 (by omega) h]
  have h1 : trimN (x.extract 0 (x.size - 1)) c (x.size - 1) = trimN x c (x.size - 1) := trimN_congr _ _ _ _ (by omega) (by omega) (fun i hi => by simp [ByteArray.getElem_extract])
  rw [h1]
  have h2 := trimN_le x c (x.size - 1)
  rw [ByteArray.extract_extract]
  congr 1
  omega
theorem trimR_no (x : ByteArray) (c : Int) (h0 : 0 < x.size) (h : ¬ ((x[x.size - 1]'(by omega)).toNat : Int) = c) : trimR x c = x := by
  unfold trimR
  rw [trimN_no x c x.size h0 (by omega) h]
  simp
theorem trimR_none (x : ByteArray) (c : Int) (h0 : ¬ 0 < x.size) : trimR x c = x := by
  unfold trimR
  have : x.size = 0 := by omega
  have h1 := trimN_le x c x.size
  rw [show trimN x c x.size = x.size from by omega]
  simp
theorem trimRB_any (s : ByteArray) (c : Int) (w : World) (hs : s.size ≤ 140737488351232) : Calls Tryd.prog 73 #[.string s, .int .u8 c] w fun e w' => e = .returned (.string (trimR s c)) ∧ w = w' := by
  go_enter Tryd.func73, Tryd.ntmps73
  go_wp2
  go_loop [0] (fun v => ∃ x : ByteArray, x.size ≤ 140737488351232 ∧ v = .string x ∧ Hid (trimR x c = trimR s c)) (fun v => match v with | .string x => x.size | _ => 0)
  case atStart => exact ⟨s, hs, rfl, rfl⟩
  case round =>
    obtain ⟨x, hx, rfl, ht⟩ := hrel
    by_cases h0 : 0 < x.size
    · have hk1 : x.size - 1 < x.size := by omega
      by_cases hc : ((x[x.size - 1]'hk1).toNat : Int) = c
      · have hb : (((x[x.size - 1]'hk1).toNat : Int) == c) = true := beq_iff_eq.2 hc
        have HT := Lib.hid (trimR_yes x c h0 hc)
        clear hc
        go_wp2
        go_round
        case rel => exact ⟨x.extract 0 (x.size - 1), by rw [ByteArray.size_extract]; omega, rfl, HT.out.trans ht.out⟩
        case measure => simp; omega
      · have hb : (((x[x.size - 1]'hk1).toNat : Int) == c) = false := beq_eq_false_iff_ne.2 hc
        have HT := Lib.hid (trimR_no x c h0 hc)
        clear hc
        go_wp2
        go_ret
        exact ⟨by rw [← ht.out, HT.out]; rfl, rfl⟩
    · have HT := Lib.hid (trimR_none x c h0)
      go_wp2
      go_ret
      exact ⟨by rw [← ht.out, HT.out]; rfl, rfl⟩
def trimLn (c : Int) : Nat → ByteArray → ByteArray
  | 0, s => s
  | n + 1, s => if h : 0 < s.size then (if (s[0].toNat : Int) = c then trimLn c n (s.extract 1 s.size) else s) else s
def trimL (s : ByteArray) (c : Int) : ByteArray := trimLn c s.size s
theorem trimL_yes (x : ByteArray) (c : Int) (h0 : 0 < x.size) (h : ((x[0]'h0).toNat : Int) = c) : trimL (x.extract 1 x.size) c = trimL x c := by
  unfold trimL
  obtain ⟨n, hn⟩ : ∃ n, x.size = n + 1 := ⟨x.size - 1, by omega⟩
  have hz : (x.extract 1 x.size).size = n := by rw [ByteArray.size_extract]; omega
  rw [hz]
  conv => rhs; rw [hn]
  simp only [trimLn, h0, dite_true, h, if_true]
theorem trimL_no (x : ByteArray) (c : Int) (h0 : 0 < x.size) (h : ¬ ((x[0]'h0).toNat : Int) = c) : trimL x c = x := by
  unfold trimL
  obtain ⟨n, hn⟩ : ∃ n, x.size = n + 1 := ⟨x.size - 1, by omega⟩
  conv => lhs; rw [hn]
  simp only [trimLn, h0, dite_true, h, if_false]
theorem trimL_none (x : ByteArray) (c : Int) (h0 : ¬ 0 < x.size) : trimL x c = x := by
  unfold trimL
  have : x.size = 0 := by omega
  rw [this]; rfl
theorem trimLB_any (s : ByteArray) (c : Int) (w : World) (hs : s.size ≤ 140737488351232) : Calls Tryd.prog 72 #[.string s, .int .u8 c] w fun e w' => e = .returned (.string (trimL s c)) ∧ w = w' := by
  go_enter Tryd.func72, Tryd.ntmps72
  go_wp2
  go_loop [0] (fun v => ∃ x : ByteArray, x.size ≤ 140737488351232 ∧ v = .string x ∧ Hid (trimL x c = trimL s c)) (fun v => match v with | .string x => x.size | _ => 0)
  case atStart => exact ⟨s, hs, rfl, rfl⟩
  case round =>
    obtain ⟨x, hx, rfl, ht⟩ := hrel
    by_cases h0 : 0 < x.size
    · by_cases hc : ((x[0]'h0).toNat : Int) = c
      · have hb : (((x[0]'h0).toNat : Int) == c) = true := beq_iff_eq.2 hc
        have HT := Lib.hid (trimL_yes x c h0 hc)
        clear hc
        go_wp2
        go_round
        case rel => exact ⟨x.extract 1 x.size, by rw [ByteArray.size_extract]; omega, rfl, HT.out.trans ht.out⟩
        case measure => simp; omega
      · have hb : (((x[0]'h0).toNat : Int) == c) = false := beq_eq_false_iff_ne.2 hc
        have HT := Lib.hid (trimL_no x c h0 hc)
        clear hc
        go_wp2
        go_ret
        exact ⟨by rw [← ht.out, HT.out]; rfl, rfl⟩
    · have HT := Lib.hid (trimL_none x c h0)
      go_wp2
      go_ret
      exact ⟨by rw [← ht.out, HT.out]; rfl, rfl⟩
theorem empty_size {s : ByteArray} (h : s.toList.isEmpty = true) : ¬ 0 < s.size := by
  rw [Lib.toList_data] at h
  have : s.data.toList = [] := by simpa using h
  have h2 : s.data.size = 0 := by simpa using congrArg List.length this
  show ¬ 0 < s.data.size
  omega
set_option maxRecDepth 100000 in
theorem words_r (s : ByteArray) (w : World) (hs : s.size ≤ 140737488351232) : Calls Tryd.prog 82 #[.string s, .string ⟨#[32]⟩] w fun e w' => e = .returned (.string (trimR s 32)) ∧ w = w' := by
  cases he : s.toList.isEmpty
  · go_enter Tryd.func82, Tryd.ntmps82
    go_wp2_with fail
    refine (trimRB_any _ _ _ hs).mono ?_
    rintro e w' ⟨rfl, rfl⟩
    go_wp2_with fail
    go_ret
    exact ⟨rfl, rfl⟩
  · have HT := Lib.hid (trimR_none s 32 (empty_size he))
    go_enter Tryd.func82, Tryd.ntmps82
    go_wp2_with fail
    go_ret
    exact ⟨by rw [HT.out]; rfl, rfl⟩
set_option maxRecDepth 100000 in
theorem words_any (s : ByteArray) (w : World) (hs : s.size ≤ 140737488351232) : Calls Tryd.prog 51 #[.string s] w fun e w' => e = .returned (.string (trimR s 32)) ∧ w = w' := by
  go_enter Tryd.func51, Tryd.ntmps51
  go_wp2_with fail
  refine (words_r _ _ hs).mono ?_
  rintro e w' ⟨rfl, rfl⟩
  go_wp2_with fail
  go_ret
  exact ⟨rfl, rfl⟩
theorem trimR_size (s : ByteArray) (c : Int) : (trimR s c).size ≤ s.size := by unfold trimR; rw [ByteArray.size_extract]; omega

theorem Nw.drewN {a w : World} (h : Nw a w) (n : Nat) : Nw a (w.drewN n) := Below.trans h ⟨rfl, rfl, rfl, Nat.le_refl _, fun _ _ => rfl⟩
theorem quiet {f : FuncId} {args : Array Value} {w : World} {n : Nat} {v : Value} (h : Calls Tryd.prog f args (w.drewN n) fun e w' => e = .returned v ∧ w.drewN n = w') : Calls Tryd.prog f args (w.drewN n) fun e w'' => e = .returned v ∧ ∃ m, w'' = w.drewN m :=
  Calls.quiet_of_same (h.mono fun _ _ ⟨a, b⟩ => ⟨a, b.symm⟩)
set_option maxRecDepth 100000 in
theorem trim_any (s : ByteArray) (w : World) (hs : s.size ≤ 140737488351232) : Calls Tryd.prog 47 #[.string s, .string ⟨#[37]⟩] w fun e w' => e = .returned (.string (trimL (trimR s 37) 37)) ∧ Nw w w' := by
  cases he : s.toList.isEmpty
  · go_enter Tryd.func47, Tryd.ntmps47
    go_wp2_with fail
    go_quiet ((first | (go_at_call 73; exact quiet (trimRB_any _ _ _ hs)) | (go_at_call 72; exact quiet (trimLB_any _ _ _ (Nat.le_trans (trimR_size _ _) hs)))))
    go_wp2_with fail
    go_ret
    exact ⟨rfl, Nw.drewN (Nw.refl _) _⟩
  · have H1 := Lib.hid (trimR_none s 37 (empty_size he))
    have H2 := Lib.hid (trimL_none s 37 (empty_size he))
    go_enter Tryd.func47, Tryd.ntmps47
    go_wp2_with fail
    go_ret
    exact ⟨by rw [H1.out, H2.out]; rfl, Nw.refl _⟩
end Vl
end Go.Proofs.YtlmkhpgnkpgbdaaDoor

namespace Go.Proofs.YtlmkhpgnkpgbdaaDoor
open Go.RowKit
set_option linter.unusedVariables false
set_option linter.unusedSimpArgs false
namespace Vl
theorem rn_num (n : Int) (w : World) : Calls Tryd.prog 69 #[.int .i64 n] w fun e w' => e = .returned (.agg #[.int .i64 1, .int .i64 n, .string ⟨#[]⟩, .bool false]) ∧ Below w.heap.size w w' := by
  go_enter Tryd.func69, Tryd.ntmps69
  go_wp2
  exact bodyPost_ret (v := .agg #[.int .i64 1, .int .i64 n, .string ⟨#[]⟩, .bool false]) (by simp [results, Tryd.results69, go_sem]) rfl ⟨rfl, (Below.refl _ _).alloc (Nat.le_refl _) _⟩
theorem rn_text (s : ByteArray) (w : World) : Calls Tryd.prog 55 #[.string s] w fun e w' => e = .returned (.agg #[.int .i64 2, .int .i64 0, .string s, .bool false]) ∧ Below w.heap.size w w' := by
  go_enter Tryd.func55, Tryd.ntmps55
  go_wp2
  exact bodyPost_ret (v := .agg #[.int .i64 2, .int .i64 0, .string s, .bool false]) (by simp [results, Tryd.results55, go_sem]) rfl ⟨rfl, (Below.refl _ _).alloc (Nat.le_refl _) _⟩
theorem below_to {w w1 : World} {o o2 : Obj} (h : Below ((w.alloc o).alloc o2).heap.size ((w.alloc o).alloc o2) w1) : Below w.heap.size w w1 := by
  have k : Below w.heap.size w ((w.alloc o).alloc o2) := ((Below.refl _ _).alloc (Nat.le_refl _) _).alloc (by simp) _
  exact k.trans (h.mono (by simp; omega))
theorem rb {a b : Bool} (h : a = b) : Ending.returned (.bool a) = .returned (.bool b) := by rw [h]
/-- is a value right? -/
def rightF (k n : Int) (s : ByteArray) (b : Bool) : Bool :=
  if k = 0 then n == 0 && (s.toList == [] && !b) else if k = 1 then s.toList == [] && !b else if k = 2 then n == 0 && !b else if k = 3 then n == 0 && s.toList == [] else false
set_option maxRecDepth 100000 in
set_option maxHeartbeats 1000000 in
theorem right_0 (n : Int) (s : ByteArray) (b : Bool) (w : World) : Calls Tryd.prog 44 #[.agg #[.int .i64 0, .int .i64 n, .string s, .bool b]] w fun e w' => e = .returned (.bool (rightF 0 n s b)) ∧ Below w.heap.size w w' := by
  generalize hr : rightF 0 n s b = r
  have HR := Lib.hid hr
  clear hr
  go_enter Tryd.func44, Tryd.ntmps44
  go_wp2
  all_goals go_ret
  all_goals exact ⟨rb (by have hh := HR.out; clear HR; subst hh; unfold rightF; (first | (simp_all; done) | (cases b <;> simp_all; done) | (rename_i h1; have h2 := beq_eq_false_iff_ne.2 h1; simp only [h2]; simp) | (simp_all [← List.isEmpty_iff]; done))), (by repeat (first | exact Below.refl _ _ | (refine Below.alloc ?_ (by simp <;> omega) _) | (refine Below.setCell ?_ (by simp <;> omega) _)))⟩
set_option maxRecDepth 100000 in
set_option maxHeartbeats 1000000 in
theorem right_1 (n : Int) (s : ByteArray) (b : Bool) (w : World) : Calls Tryd.prog 44 #[.agg #[.int .i64 1, .int .i64 n, .string s, .bool b]] w fun e w' => e = .returned (.bool (rightF 1 n s b)) ∧ Below w.heap.size w w' := by
  generalize hr : rightF 1 n s b = r
  have HR := Lib.hid hr
  clear hr
  go_enter Tryd.func44, Tryd.ntmps44
  go_wp2_with fail
  refine (rn_num _ _).mono ?_
  rintro e w1 ⟨rfl, hb⟩
  have q0 : ∀ i, w1.cell? ⟨w.heap.size, i, none⟩ = _ := fun i => hb.cell (p := ⟨w.heap.size, i, none⟩) (by simp <;> omega)
  have q1 : ∀ i, w1.cell? ⟨w.heap.size + 1, i, none⟩ = _ := fun i => hb.cell (p := ⟨w.heap.size + 1, i, none⟩) (by simp <;> omega)
  have f1 : ∀ i, w1.frozen? ⟨w.heap.size + 1, i, none⟩ = _ := fun i => hb.frozen (p := ⟨w.heap.size + 1, i, none⟩) (by simp <;> omega)
  have hz : w.heap.size + 1 < w1.heap.size := by have := hb.size; simp at this; omega
  have G := Lib.hid hb
  clear hb
  go_wp2_with fail
  all_goals go_ret
  all_goals exact ⟨rb (by have hh := HR.out; clear HR; subst hh; unfold rightF; (first | (simp_all; done) | (cases b <;> simp_all; done) | (rename_i h1; have h2 := beq_eq_false_iff_ne.2 h1; simp only [h2]; simp) | (simp_all [← List.isEmpty_iff]; done))), by (repeat (first | exact below_to G.out | (refine Below.setCell ?_ (by simp) _)))⟩
set_option maxRecDepth 100000 in
set_option maxHeartbeats 1000000 in
theorem right_2 (n : Int) (s : ByteArray) (b : Bool) (w : World) : Calls Tryd.prog 44 #[.agg #[.int .i64 2, .int .i64 n, .string s, .bool b]] w fun e w' => e = .returned (.bool (rightF 2 n s b)) ∧ Below w.heap.size w w' := by
  generalize hr : rightF 2 n s b = r
  have HR := Lib.hid hr
  clear hr
  go_enter Tryd.func44, Tryd.ntmps44
  go_wp2_with fail
  refine (rn_text _ _).mono ?_
  rintro e w1 ⟨rfl, hb⟩
  have q0 : ∀ i, w1.cell? ⟨w.heap.size, i, none⟩ = _ := fun i => hb.cell (p := ⟨w.heap.size, i, none⟩) (by simp <;> omega)
  have q1 : ∀ i, w1.cell? ⟨w.heap.size + 1, i, none⟩ = _ := fun i => hb.cell (p := ⟨w.heap.size + 1, i, none⟩) (by simp <;> omega)
  have f1 : ∀ i, w1.frozen? ⟨w.heap.size + 1, i, none⟩ = _ := fun i => hb.frozen (p := ⟨w.heap.size + 1, i, none⟩) (by simp <;> omega)
  have hz : w.heap.size + 1 < w1.heap.size := by have := hb.size; simp at this; omega
  have G := Lib.hid hb
  clear hb
  go_wp2_with fail
  all_goals go_ret
  all_goals exact ⟨rb (by have hh := HR.out; clear HR; subst hh; unfold rightF; (first | (simp_all; done) | (cases b <;> simp_all; done) | (rename_i h1; have h2 := beq_eq_false_iff_ne.2 h1; simp only [h2]; simp) | (simp_all [← List.isEmpty_iff]; done))), by (repeat (first | exact below_to G.out | (refine Below.setCell ?_ (by simp) _)))⟩
set_option maxRecDepth 100000 in
set_option maxHeartbeats 1000000 in
theorem right_3 (n : Int) (s : ByteArray) (b : Bool) (w : World) : Calls Tryd.prog 44 #[.agg #[.int .i64 3, .int .i64 n, .string s, .bool b]] w fun e w' => e = .returned (.bool (rightF 3 n s b)) ∧ Below w.heap.size w w' := by
  generalize hr : rightF 3 n s b = r
  have HR := Lib.hid hr
  clear hr
  go_enter Tryd.func44, Tryd.ntmps44
  go_wp2
  all_goals go_ret
  all_goals exact ⟨rb (by have hh := HR.out; clear HR; subst hh; unfold rightF; (first | (simp_all; done) | (cases b <;> simp_all; done) | (rename_i h1; have h2 := beq_eq_false_iff_ne.2 h1; simp only [h2]; simp) | (simp_all [← List.isEmpty_iff]; done))), (by repeat (first | exact Below.refl _ _ | (refine Below.alloc ?_ (by simp <;> omega) _) | (refine Below.setCell ?_ (by simp <;> omega) _)))⟩
set_option maxRecDepth 100000 in
theorem right_o (k n : Int) (s : ByteArray) (b : Bool) (w : World) (e0 : (k == 0) = false) (e1 : (k == 1) = false) (e2 : (k == 2) = false) (e3 : (k == 3) = false) : Calls Tryd.prog 44 #[.agg #[.int .i64 k, .int .i64 n, .string s, .bool b]] w fun e w' => e = .returned (.bool false) ∧ Below w.heap.size w w' := by
  go_enter Tryd.func44, Tryd.ntmps44
  go_wp2
  all_goals go_ret
  all_goals exact ⟨rfl, (by repeat (first | exact Below.refl _ _ | (refine Below.alloc ?_ (by simp <;> omega) _) | (refine Below.setCell ?_ (by simp <;> omega) _)))⟩
theorem right_any (k n : Int) (s : ByteArray) (b : Bool) (w : World) : Calls Tryd.prog 44 #[.agg #[.int .i64 k, .int .i64 n, .string s, .bool b]] w fun e w' => e = .returned (.bool (rightF k n s b)) ∧ Below w.heap.size w w' := by
  by_cases h0 : k = 0
  · subst h0; exact right_0 n s b w
  by_cases h1 : k = 1
  · subst h1; exact right_1 n s b w
  by_cases h2 : k = 2
  · subst h2; exact right_2 n s b w
  by_cases h3 : k = 3
  · subst h3; exact right_3 n s b w
  have e : rightF k n s b = false := by unfold rightF; rw [if_neg h0, if_neg h1, if_neg h2, if_neg h3]
  rw [e]
  exact right_o k n s b w (beq_eq_false_iff_ne.2 h0) (beq_eq_false_iff_ne.2 h1) (beq_eq_false_iff_ne.2 h2) (beq_eq_false_iff_ne.2 h3)
end Vl
end Go.Proofs.YtlmkhpgnkpgbdaaDoor

namespace Go.Proofs.YtlmkhpgnkpgbdaaDoor.PSU2
open Go.RowKit Go.Proofs.YtlmkhpgnkpgbdaaDoorW.PrintWords Go.Proofs.YtlmkhpgnkpgbdaaDoorW.PrintLast Go.Proofs.YtlmkhpgnkpgbdaaDoorW.PrintMore
attribute [local go_sem] max2_int min2_int max_two min_two max_three min_three max_four min_four   -- for this text's walks alone
set_option linter.unusedVariables false
set_option linter.unusedSimpArgs false



def errW : Option Int → Value
  | none => .nilIface
  | some c => .iface 0 (.int .i64 c)
theorem errW_none : errW none = .nilIface := rfl
theorem errW_some (c : Int) : errW (some c) = .iface 0 (.int .i64 c) := rfl

-- the values' own types
/-! #### struct type 28 -/
structure S28 where
  f0 : Int
  f1 : Int
  f2 : ByteArray
  f3 : Bool
def z28 : S28 := ⟨(0 : Int), (0 : Int), (⟨#[]⟩ : ByteArray), false⟩
def k28 : Kd S28 := Kd.iso (Kd.pair (Kd.int .i64) (Kd.pair (Kd.int .i64) (Kd.pair Kd.string Kd.bool))) (fun x : S28 => (x.f0, x.f1, x.f2, x.f3))
theorem k28_open {w : World} {x : S28} {cs : List Value} (h : k28.K w x cs) : cs = [.int .i64 x.f0, .int .i64 x.f1, .string x.f2, .bool x.f3] := by
  obtain ⟨_, _, rfl, rfl, ⟨_, _, rfl, rfl, ⟨_, _, rfl, rfl, rfl⟩⟩⟩ := h
  exact rfl
theorem k28_openM {w : World} {base : Nat} {ok : Nat → Prop} {x : S28} {cs : List Value} (h : k28.M w base ok x cs) : cs = [.int .i64 x.f0, .int .i64 x.f1, .string x.f2, .bool x.f3] := by
  obtain ⟨_, _, rfl, rfl, ⟨_, _, rfl, rfl, ⟨_, _, rfl, rfl, rfl⟩⟩⟩ := h
  exact rfl
theorem k28_mk (w : World) (x : S28)  : k28.K w x [.int .i64 x.f0, .int .i64 x.f1, .string x.f2, .bool x.f3] := ⟨[.int .i64 x.f0], [.int .i64 x.f1, .string x.f2, .bool x.f3], rfl, rfl, ⟨[.int .i64 x.f1], [.string x.f2, .bool x.f3], rfl, rfl, ⟨[.string x.f2], [.bool x.f3], rfl, rfl, rfl⟩⟩⟩
theorem k28_mkM (w : World) (base : Nat) (ok : Nat → Prop) (x : S28)  : k28.M w base ok x [.int .i64 x.f0, .int .i64 x.f1, .string x.f2, .bool x.f3] := ⟨[.int .i64 x.f0], [.int .i64 x.f1, .string x.f2, .bool x.f3], rfl, rfl, ⟨[.int .i64 x.f1], [.string x.f2, .bool x.f3], rfl, rfl, ⟨[.string x.f2], [.bool x.f3], rfl, rfl, rfl⟩⟩⟩
def rd_T28 (xs : List S28) (i : Int) : S28 := xs.getD i.toNat z28
theorem at_T28 {w : World} {A : Option Addr} {n : Nat} {xs : List S28} (h : Kd.C k28 w A n xs) (i : Int) (h0 : 0 ≤ i) (h1 : i < n) : ∃ ad , A = some ad ∧ w.cell? (ad.add (i.toNat * 4)) = some (.int .i64 (rd_T28 xs i).f0) ∧ w.cell? ⟨(ad.add (i.toNat * 4)).block, (ad.add (i.toNat * 4)).off + 1, none⟩ = some (.int .i64 (rd_T28 xs i).f1) ∧ w.cell? ⟨(ad.add (i.toNat * 4)).block, (ad.add (i.toNat * 4)).off + 2, none⟩ = some (.string (rd_T28 xs i).f2) ∧ w.cell? ⟨(ad.add (i.toNat * 4)).block, (ad.add (i.toNat * 4)).off + 3, none⟩ = some (.bool (rd_T28 xs i).f3) := by
  obtain ⟨ad, c, e, _, hK, hc0⟩ := Kd.C_get h z28 i h0 h1
  have hc : ∀ j u, c[j]? = some u → w.cell? (ad.add (i.toNat * 4 + j)) = some u := hc0
  obtain rfl := k28_open hK
  exact ⟨ad, e, hc 0 _ rfl, by rw [← add_field _ _ 1 (by omega)]; exact hc 1 _ rfl, by rw [← add_field _ _ 2 (by omega)]; exact hc 2 _ rfl, by rw [← add_field _ _ 3 (by omega)]; exact hc 3 _ rfl⟩

end Go.Proofs.YtlmkhpgnkpgbdaaDoor.PSU2

namespace Go.Proofs.YtlmkhpgnkpgbdaaDoor.PSU2
open Go.RowKit Go.Proofs.YtlmkhpgnkpgbdaaDoorW.PrintWords Go.Proofs.YtlmkhpgnkpgbdaaDoorW.PrintLast Go.Proofs.YtlmkhpgnkpgbdaaDoorW.PrintMore
attribute [local go_sem] max2_int min2_int max_two min_two max_three min_three max_four min_four   -- for this text's walks alone
set_option linter.unusedVariables false
set_option linter.unusedSimpArgs false

/-! ### value_Mul: function 34, by hand -/
def value_Mul.f (a0_0 : Int) (a0_1 : Int) (a0_2 : ByteArray) (a0_3 : Bool) (a1_0 : Int) (a1_1 : Int) (a1_2 : ByteArray) (a1_3 : Bool) : Option (Int × Int × ByteArray × Bool × ByteArray) := if (-9223372036854775808 ≤ a0_1 ∧ a0_1 ≤ 9223372036854775807) ∧ (-9223372036854775808 ≤ a1_1 ∧ a1_1 ≤ 9223372036854775807) then some (Go.Proofs.YtlmkhpgnkpgbdaaDoor.Vl.liftF 1 a0_0 a1_0 (Go.Proofs.YtlmkhpgnkpgbdaaDoor.Vl.mulF a0_1 a1_1)) else none
theorem value_Mul.calls (a0_0 : Int) (a0_1 : Int) (a0_2 : ByteArray) (a0_3 : Bool) (a1_0 : Int) (a1_1 : Int) (a1_2 : ByteArray) (a1_3 : Bool) (r1 : Int) (r2 : Int) (r3 : ByteArray) (r4 : Bool) (r5 : ByteArray) (w : World) (h : value_Mul.f a0_0 a0_1 a0_2 a0_3 a1_0 a1_1 a1_2 a1_3 = some (r1, r2, r3, r4, r5)) :
    Calls Tryd.prog 34 #[.agg #[.int .i64 a0_0, .int .i64 a0_1, .string a0_2, .bool a0_3], .agg #[.int .i64 a1_0, .int .i64 a1_1, .string a1_2, .bool a1_3]] w fun e w' => e = .returned (.tuple #[.agg #[.int .i64 r1, .int .i64 r2, .string r3, .bool r4], .string r5]) ∧ Below w.heap.size w w' := by
  unfold value_Mul.f at h
  split at h
  · rename_i hc
    exact Go.Proofs.YtlmkhpgnkpgbdaaDoor.Vl.mul_raw _ _ _ _ _ _ _ _ r1 r2 r3 r4 r5 w hc.1 hc.2 (Option.some.inj h)
  · cases h

/-! ### stileref01_both: function 66, by hand -/
def stileref01_both.f (a0_0 : Int) (a0_1 : Int) (a0_2 : ByteArray) (a0_3 : Bool) (a1_0 : Int) (a1_1 : Int) (a1_2 : ByteArray) (a1_3 : Bool) (a2 : Int) : Option (ByteArray × Bool) := some (Go.Proofs.YtlmkhpgnkpgbdaaDoor.Vl.bothF a0_0 a1_0 a2)
theorem stileref01_both.calls (a0_0 : Int) (a0_1 : Int) (a0_2 : ByteArray) (a0_3 : Bool) (a1_0 : Int) (a1_1 : Int) (a1_2 : ByteArray) (a1_3 : Bool) (a2 : Int) (r1 : ByteArray) (r2 : Bool) (w : World) (h : stileref01_both.f a0_0 a0_1 a0_2 a0_3 a1_0 a1_1 a1_2 a1_3 a2 = some (r1, r2)) :
    Calls Tryd.prog 66 #[.agg #[.int .i64 a0_0, .int .i64 a0_1, .string a0_2, .bool a0_3], .agg #[.int .i64 a1_0, .int .i64 a1_1, .string a1_2, .bool a1_3], .int .i64 a2] w fun e w' => e = .returned (.tuple #[.string r1, .bool r2]) ∧ Below w.heap.size w w' := by
  have e := Option.some.inj h
  have t := Go.Proofs.YtlmkhpgnkpgbdaaDoor.Vl.both_any a0_0 a0_1 a0_2 a0_3 a1_0 a1_1 a1_2 a1_3 a2 w
  rw [e] at t
  exact t

/-! ### stileref01_Add: function 36, by hand -/
def stileref01_Add.f (a0_0 : Int) (a0_1 : Int) (a0_2 : ByteArray) (a0_3 : Bool) (a1_0 : Int) (a1_1 : Int) (a1_2 : ByteArray) (a1_3 : Bool) : Option (Int × Int × ByteArray × Bool × ByteArray) := if (-9223372036854775808 ≤ a0_1 ∧ a0_1 ≤ 9223372036854775807) ∧ (-9223372036854775808 ≤ a1_1 ∧ a1_1 ≤ 9223372036854775807) then some (Go.Proofs.YtlmkhpgnkpgbdaaDoor.Vl.liftF 1 a0_0 a1_0 (Go.Proofs.YtlmkhpgnkpgbdaaDoor.Vl.addF a0_1 a1_1)) else none
theorem stileref01_Add.calls (a0_0 : Int) (a0_1 : Int) (a0_2 : ByteArray) (a0_3 : Bool) (a1_0 : Int) (a1_1 : Int) (a1_2 : ByteArray) (a1_3 : Bool) (r1 : Int) (r2 : Int) (r3 : ByteArray) (r4 : Bool) (r5 : ByteArray) (w : World) (h : stileref01_Add.f a0_0 a0_1 a0_2 a0_3 a1_0 a1_1 a1_2 a1_3 = some (r1, r2, r3, r4, r5)) :
    Calls Tryd.prog 36 #[.agg #[.int .i64 a0_0, .int .i64 a0_1, .string a0_2, .bool a0_3], .agg #[.int .i64 a1_0, .int .i64 a1_1, .string a1_2, .bool a1_3]] w fun e w' => e = .returned (.tuple #[.agg #[.int .i64 r1, .int .i64 r2, .string r3, .bool r4], .string r5]) ∧ Below w.heap.size w w' := by
  unfold stileref01_Add.f at h
  split at h
  · rename_i hc
    exact Go.Proofs.YtlmkhpgnkpgbdaaDoor.Vl.addR_raw5 _ _ _ _ _ _ _ _ r1 r2 r3 r4 r5 w hc.1 hc.2 (Option.some.inj h)
  · cases h

/-! ### stileref01_Sub: function 37, by hand -/
def stileref01_Sub.f (a0_0 : Int) (a0_1 : Int) (a0_2 : ByteArray) (a0_3 : Bool) (a1_0 : Int) (a1_1 : Int) (a1_2 : ByteArray) (a1_3 : Bool) : Option (Int × Int × ByteArray × Bool × ByteArray) := if (-9223372036854775808 ≤ a0_1 ∧ a0_1 ≤ 9223372036854775807) ∧ (-9223372036854775808 ≤ a1_1 ∧ a1_1 ≤ 9223372036854775807) then some (Go.Proofs.YtlmkhpgnkpgbdaaDoor.Vl.liftF 1 a0_0 a1_0 (Go.Proofs.YtlmkhpgnkpgbdaaDoor.Vl.subF a0_1 a1_1)) else none
theorem stileref01_Sub.calls (a0_0 : Int) (a0_1 : Int) (a0_2 : ByteArray) (a0_3 : Bool) (a1_0 : Int) (a1_1 : Int) (a1_2 : ByteArray) (a1_3 : Bool) (r1 : Int) (r2 : Int) (r3 : ByteArray) (r4 : Bool) (r5 : ByteArray) (w : World) (h : stileref01_Sub.f a0_0 a0_1 a0_2 a0_3 a1_0 a1_1 a1_2 a1_3 = some (r1, r2, r3, r4, r5)) :
    Calls Tryd.prog 37 #[.agg #[.int .i64 a0_0, .int .i64 a0_1, .string a0_2, .bool a0_3], .agg #[.int .i64 a1_0, .int .i64 a1_1, .string a1_2, .bool a1_3]] w fun e w' => e = .returned (.tuple #[.agg #[.int .i64 r1, .int .i64 r2, .string r3, .bool r4], .string r5]) ∧ Below w.heap.size w w' := by
  unfold stileref01_Sub.f at h
  split at h
  · rename_i hc
    exact Go.Proofs.YtlmkhpgnkpgbdaaDoor.Vl.subR_raw5 _ _ _ _ _ _ _ _ r1 r2 r3 r4 r5 w hc.1 hc.2 (Option.some.inj h)
  · cases h

/-! ### stileref01_wide: function 67 -/
def stileref01_wide.f (a0 : Int) (a1 : Int) : Option (Int × Int) := some (IntKind.u64.wrap ((IntKind.u64.wrap ((IntKind.u64.wrap ((IntKind.u64.wrap (Int.tdiv a0 4294967296)) * (IntKind.u64.wrap (Int.tdiv a1 4294967296)))) + (IntKind.u64.wrap (Int.tdiv (IntKind.u64.wrap ((IntKind.u64.wrap ((IntKind.u64.wrap (Int.tdiv a0 4294967296)) * (Int.tmod a1 4294967296))) + (IntKind.u64.wrap (Int.tdiv (IntKind.u64.wrap ((Int.tmod a0 4294967296) * (Int.tmod a1 4294967296))) 4294967296)))) 4294967296)))) + (IntKind.u64.wrap (Int.tdiv (IntKind.u64.wrap ((IntKind.u64.wrap ((Int.tmod a0 4294967296) * (IntKind.u64.wrap (Int.tdiv a1 4294967296)))) + (Int.tmod (IntKind.u64.wrap ((IntKind.u64.wrap ((IntKind.u64.wrap (Int.tdiv a0 4294967296)) * (Int.tmod a1 4294967296))) + (IntKind.u64.wrap (Int.tdiv (IntKind.u64.wrap ((Int.tmod a0 4294967296) * (Int.tmod a1 4294967296))) 4294967296)))) 4294967296))) 4294967296))), IntKind.u64.wrap ((IntKind.u64.wrap ((Int.tmod (IntKind.u64.wrap ((IntKind.u64.wrap ((Int.tmod a0 4294967296) * (IntKind.u64.wrap (Int.tdiv a1 4294967296)))) + (Int.tmod (IntKind.u64.wrap ((IntKind.u64.wrap ((IntKind.u64.wrap (Int.tdiv a0 4294967296)) * (Int.tmod a1 4294967296))) + (IntKind.u64.wrap (Int.tdiv (IntKind.u64.wrap ((Int.tmod a0 4294967296) * (Int.tmod a1 4294967296))) 4294967296)))) 4294967296))) 4294967296) * 4294967296)) + (Int.tmod (IntKind.u64.wrap ((Int.tmod a0 4294967296) * (Int.tmod a1 4294967296))) 4294967296)))
set_option maxHeartbeats 8000000 in
set_option maxRecDepth 100000 in
theorem stileref01_wide.calls (a0 : Int) (a1 : Int) (r1 : Int) (r2 : Int) (w : World) (h : stileref01_wide.f a0 a1 = some (r1, r2)) :
    Calls Tryd.prog 67 #[.int .u64 a0, .int .u64 a1] w fun e w' => e = .returned (.tuple #[.int .u64 r1, .int .u64 r2]) ∧ Drawn0 w w' := by
  have H : (some (IntKind.u64.wrap ((IntKind.u64.wrap ((IntKind.u64.wrap ((IntKind.u64.wrap (Int.tdiv a0 4294967296)) * (IntKind.u64.wrap (Int.tdiv a1 4294967296)))) + (IntKind.u64.wrap (Int.tdiv (IntKind.u64.wrap ((IntKind.u64.wrap ((IntKind.u64.wrap (Int.tdiv a0 4294967296)) * (Int.tmod a1 4294967296))) + (IntKind.u64.wrap (Int.tdiv (IntKind.u64.wrap ((Int.tmod a0 4294967296) * (Int.tmod a1 4294967296))) 4294967296)))) 4294967296)))) + (IntKind.u64.wrap (Int.tdiv (IntKind.u64.wrap ((IntKind.u64.wrap ((Int.tmod a0 4294967296) * (IntKind.u64.wrap (Int.tdiv a1 4294967296)))) + (Int.tmod (IntKind.u64.wrap ((IntKind.u64.wrap ((IntKind.u64.wrap (Int.tdiv a0 4294967296)) * (Int.tmod a1 4294967296))) + (IntKind.u64.wrap (Int.tdiv (IntKind.u64.wrap ((Int.tmod a0 4294967296) * (Int.tmod a1 4294967296))) 4294967296)))) 4294967296))) 4294967296))), IntKind.u64.wrap ((IntKind.u64.wrap ((Int.tmod (IntKind.u64.wrap ((IntKind.u64.wrap ((Int.tmod a0 4294967296) * (IntKind.u64.wrap (Int.tdiv a1 4294967296)))) + (Int.tmod (IntKind.u64.wrap ((IntKind.u64.wrap ((IntKind.u64.wrap (Int.tdiv a0 4294967296)) * (Int.tmod a1 4294967296))) + (IntKind.u64.wrap (Int.tdiv (IntKind.u64.wrap ((Int.tmod a0 4294967296) * (Int.tmod a1 4294967296))) 4294967296)))) 4294967296))) 4294967296) * 4294967296)) + (Int.tmod (IntKind.u64.wrap ((Int.tmod a0 4294967296) * (Int.tmod a1 4294967296))) 4294967296)))) = some (r1, r2) := h
  clear h
  simp only [Option.some.injEq, Prod.mk.injEq] at H
  obtain ⟨rfl, rfl⟩ := H
  go_enter Tryd.func67, Tryd.ntmps67
  go_wp2
  go_ret2
  exact ⟨by first | rfl | (simp; done) | (simp [*]; done), by repeat (first | exact Drawn0.refl _ | apply Drawn0.step)⟩

/-! ### stileref01_size: function 68 -/
def stileref01_size.f (a0 : Int) : Option (Int) := if a0 < 0 then (some (IntKind.u64.wrap (-(IntKind.u64.wrap (a0))))) else (some (IntKind.u64.wrap (a0)))
set_option maxHeartbeats 8000000 in
set_option maxRecDepth 100000 in
theorem stileref01_size.calls (a0 : Int) (r : Int) (w : World) (h : stileref01_size.f a0 = some r) :
    Calls Tryd.prog 68 #[.int .i64 a0] w fun e w' => e = .returned (.int .u64 r) ∧ Drawn0 w w' := by
  have H : (if a0 < 0 then (some (IntKind.u64.wrap (-(IntKind.u64.wrap (a0))))) else (some (IntKind.u64.wrap (a0)))) = some r := h
  clear h
  by_cases c2 : a0 < 0
  · rw [if_pos c2] at H
    have c2b0 : decide (a0 < 0) = true := decide_eq_true c2
    clear c2
    obtain rfl := Option.some.inj H
    go_enter Tryd.func68, Tryd.ntmps68
    go_wp2
    go_ret
    exact ⟨by first | rfl | (simp; done) | (simp [*]; done), by repeat (first | exact Drawn0.refl _ | apply Drawn0.step)⟩
  · rw [if_neg c2] at H
    have c2b0 : decide (a0 < 0) = false := decide_eq_false c2
    clear c2
    obtain rfl := Option.some.inj H
    go_enter Tryd.func68, Tryd.ntmps68
    go_wp2
    go_ret
    exact ⟨by first | rfl | (simp; done) | (simp [*]; done), by repeat (first | exact Drawn0.refl _ | apply Drawn0.step)⟩

end Go.Proofs.YtlmkhpgnkpgbdaaDoor.PSU2

namespace Go.Proofs.YtlmkhpgnkpgbdaaDoor
open Go.RowKit Go.Proofs.YtlmkhpgnkpgbdaaDoor.PSU2 Go.Proofs.YtlmkhpgnkpgbdaaDoorW.PrintWords Go.Proofs.YtlmkhpgnkpgbdaaDoorW.PrintLast
set_option linter.unusedVariables false
set_option linter.unusedSimpArgs false
namespace Vl
theorem u64w (x : Int) (h0 : 0 ≤ x) (h1 : x < 18446744073709551616) : IntKind.u64.wrap x = x := by rw [IntKind.wrap_u64]; omega
theorem mul_bd (a b : Int) (ha : 0 ≤ a) (ha1 : a ≤ 4294967295) (hb : 0 ≤ b) (hb1 : b ≤ 4294967295) : 0 ≤ a * b ∧ a * b ≤ 18446744065119617025 := by
  refine ⟨Int.mul_nonneg ha hb, ?_⟩
  have h1 : a * b ≤ 4294967295 * b := Int.mul_le_mul_of_nonneg_right ha1 hb
  omega
theorem wide_ok (a b : Int) (ha : 0 ≤ a) (ha1 : a < 18446744073709551616) (hb : 0 ≤ b) (hb1 : b < 18446744073709551616) : stileref01_wide.f a b = some (a * b / 18446744073709551616, a * b % 18446744073709551616) := by
  unfold stileref01_wide.f
  simp only [Int.tdiv_eq_ediv_of_nonneg ha, Int.tdiv_eq_ediv_of_nonneg hb, Int.tmod_eq_emod_of_nonneg ha, Int.tmod_eq_emod_of_nonneg hb]
  obtain ⟨ah, hah⟩ : ∃ x, a / 4294967296 = x := ⟨_, rfl⟩
  obtain ⟨al, hal⟩ : ∃ x, a % 4294967296 = x := ⟨_, rfl⟩
  obtain ⟨bh, hbh⟩ : ∃ x, b / 4294967296 = x := ⟨_, rfl⟩
  obtain ⟨bl, hbl⟩ : ∃ x, b % 4294967296 = x := ⟨_, rfl⟩
  have ea : a = ah * 4294967296 + al := by omega
  have eb : b = bh * 4294967296 + bl := by omega
  rw [hah, hal, hbh, hbl]
  have b1 : 0 ≤ ah ∧ ah ≤ 4294967295 := by omega
  have b2 : 0 ≤ al ∧ al ≤ 4294967295 := by omega
  have b3 : 0 ≤ bh ∧ bh ≤ 4294967295 := by omega
  have b4 : 0 ≤ bl ∧ bl ≤ 4294967295 := by omega
  have m1 := mul_bd al bl b2.1 b2.2 b4.1 b4.2
  have m2 := mul_bd ah bl b1.1 b1.2 b4.1 b4.2
  have m3 := mul_bd al bh b2.1 b2.2 b3.1 b3.2
  have m4 := mul_bd ah bh b1.1 b1.2 b3.1 b3.2
  have ep : a * b = ah * bh * 18446744073709551616 + (ah * bl + al * bh) * 4294967296 + al * bl := by
    rw [ea, eb]
    simp only [Int.add_mul, Int.mul_add]
    have e1 : ah * 4294967296 * (bh * 4294967296) = ah * bh * 18446744073709551616 := by rw [Int.mul_assoc, Int.mul_left_comm 4294967296 bh 4294967296, ← Int.mul_assoc]; rfl
    have e2 : ah * 4294967296 * bl = ah * bl * 4294967296 := Int.mul_right_comm _ _ _
    have e3 : al * (bh * 4294967296) = al * bh * 4294967296 := (Int.mul_assoc _ _ _).symm
    rw [e1, e2, e3]
    omega
  rw [ep]
  clear ep ea eb hah hal hbh hbl ha ha1 hb hb1
  rw [u64w ah (by omega) (by omega), u64w bh (by omega) (by omega)]
  generalize al * bl = x at *
  generalize ah * bl = y at *
  generalize al * bh = z at *
  generalize ah * bh = t at *
  rw [u64w x (by omega) (by omega), u64w y (by omega) (by omega), u64w z (by omega) (by omega), u64w t (by omega) (by omega)]
  rw [Int.tdiv_eq_ediv_of_nonneg m1.1, Int.tmod_eq_emod_of_nonneg m1.1, u64w (x / 4294967296) (by omega) (by omega)]
  obtain ⟨q, hq⟩ : ∃ q, y + x / 4294967296 = q := ⟨_, rfl⟩
  rw [hq, u64w q (by omega) (by omega), Int.tdiv_eq_ediv_of_nonneg (show 0 ≤ q by omega), Int.tmod_eq_emod_of_nonneg (show 0 ≤ q by omega), u64w (q / 4294967296) (by omega) (by omega)]
  obtain ⟨r, hr⟩ : ∃ r, z + q % 4294967296 = r := ⟨_, rfl⟩
  rw [hr, u64w r (by omega) (by omega), Int.tdiv_eq_ediv_of_nonneg (show 0 ≤ r by omega), Int.tmod_eq_emod_of_nonneg (show 0 ≤ r by omega), u64w (r / 4294967296) (by omega) (by omega)]
  rw [u64w (r % 4294967296 * 4294967296) (by omega) (by omega)]
  rw [IntKind.wrap_u64, IntKind.wrap_u64, IntKind.wrap_u64]
  have key : t * 18446744073709551616 + (y + z) * 4294967296 + x = (t + q / 4294967296 + r / 4294967296) * 18446744073709551616 + (r % 4294967296 * 4294967296 + x % 4294967296) := by omega
  have hlo : 0 ≤ r % 4294967296 * 4294967296 + x % 4294967296 ∧ r % 4294967296 * 4294967296 + x % 4294967296 < 18446744073709551616 := by omega
  have htot : t + q / 4294967296 + r / 4294967296 < 18446744073709551616 ∧ 0 ≤ t + q / 4294967296 + r / 4294967296 := by omega
  rw [key]
  congr 1
  refine Prod.ext ?_ ?_
  · show _ = _
    omega
  · show _ = _
    omega
end Vl
end Go.Proofs.YtlmkhpgnkpgbdaaDoor

namespace Go.Proofs.YtlmkhpgnkpgbdaaDoor.PSU2
open Go.RowKit Go.Proofs.YtlmkhpgnkpgbdaaDoorW.PrintWords Go.Proofs.YtlmkhpgnkpgbdaaDoorW.PrintLast Go.Proofs.YtlmkhpgnkpgbdaaDoorW.PrintMore
attribute [local go_sem] max2_int min2_int max_two min_two max_three min_three max_four min_four   -- for this text's walks alone
set_option linter.unusedVariables false
set_option linter.unusedSimpArgs false

/-! ### stileref01_Text: function 22 -/
def stileref01_Text.f (a0 : ByteArray) : Option (Int × Int × ByteArray × Bool) := some (2, 0, a0, false)
set_option maxHeartbeats 8000000 in
set_option maxRecDepth 100000 in
theorem stileref01_Text.calls (a0 : ByteArray) (r1 : Int) (r2 : Int) (r3 : ByteArray) (r4 : Bool) (w : World) (h : stileref01_Text.f a0 = some (r1, r2, r3, r4)) :
    Calls Tryd.prog 22 #[.string a0] w fun e w' => e = .returned (.agg #[.int .i64 r1, .int .i64 r2, .string r3, .bool r4]) ∧ Below w.heap.size w w' := by
  have hu28 := Tryd.underlying28
  have HB := Aside0.mk (Below.refl w.heap.size w)
  have H : (some (2, 0, a0, false)) = some (r1, r2, r3, r4) := h
  clear h
  simp only [Option.some.injEq, Prod.mk.injEq] at H
  obtain ⟨rfl, rfl, rfl, rfl⟩ := H
  go_enter Tryd.func22, Tryd.ntmps22
  go_wp2_with (first | ((with_reducible refine gate_dst (N := 2) rfl ?_); refine box_event ?hg (N := 2) ?hd (cs := #[.int .i64 0, .int .i64 0, .string (⟨#[]⟩ : ByteArray), .bool false]) (t := 28) ?hr ?_; (case hd => rfl); (case hg => rfl); (case hr => first | (go_simp; done) | (go_simp; rfl)); intro gb115 hg w2 hbox hb; have n0_ := Aside0.mk (below_step (by repeat (first | (with_reducible first | exact HB.out | apply below_alloc | apply pw_below_drewN | apply below_drew1) | exact HB.out)) hb); have n1_ := Aside0.mk (hbox); have n2_ := Aside0.mk ((by rw [hg]; exact (below_size (by repeat (first | (with_reducible first | exact HB.out | apply below_alloc | apply pw_below_drewN | apply below_drew1) | exact HB.out))) : w.heap.size ≤ gb115)); have n3_ := Aside0.mk ((by rw [hg]; exact (below_size (by repeat (first | (with_reducible first | exact HB.out | apply below_alloc | apply pw_below_drewN | apply below_drew1) | exact HB.out))) : w.heap.size ≤ gb115)); clear HB; have HB := n0_; have BK115 := n1_; have GW115 := n2_; have GE115 := n3_; clear n0_ n1_ n2_ n3_; clear hb hbox hg; have hcz3_0 : w2.cell? ⟨gb115, 0, none⟩ = some (.int .i64 0) := (blk_cell BK115.out 0).trans rfl; have hcz3_1 : w2.cell? ⟨gb115, 1, none⟩ = some (.int .i64 0) := (blk_cell BK115.out 1).trans rfl; have hcz3_2 : w2.cell? ⟨gb115, 2, none⟩ = some (.string (⟨#[]⟩ : ByteArray)) := (blk_cell BK115.out 2).trans rfl; have hcz3_3 : w2.cell? ⟨gb115, 3, none⟩ = some (.bool false) := (blk_cell BK115.out 3).trans rfl; have hfz3_0 := blk_frozen BK115.out 0; have hfz3_1 := blk_frozen BK115.out 1; have hfz3_2 := blk_frozen BK115.out 2; have hfz3_3 := blk_frozen BK115.out 3))
  refine bodyPost_ret (results_cell_row rfl _ _ gb115 28 #[.int .i64 2, .int .i64 0, .string a0, .bool false] (0, 0) _ rfl (by (with_reducible repeat (first | refine blk_drewN ?_ _ | refine blk_drew ?_ | refine blk_alloc ?_ _)); refine blk_put (cs := #[.int .i64 2, .int .i64 0, .string a0, .bool false]) ?_ 3 _ rfl; (with_reducible repeat (first | refine blk_drewN ?_ _ | refine blk_drew ?_ | refine blk_alloc ?_ _)); refine blk_put (cs := #[.int .i64 2, .int .i64 0, .string (⟨#[]⟩ : ByteArray), .bool false]) ?_ 2 _ rfl; (with_reducible repeat (first | refine blk_drewN ?_ _ | refine blk_drew ?_ | refine blk_alloc ?_ _)); refine blk_put (cs := #[.int .i64 2, .int .i64 0, .string (⟨#[]⟩ : ByteArray), .bool false]) ?_ 1 _ rfl; (with_reducible repeat (first | refine blk_drewN ?_ _ | refine blk_drew ?_ | refine blk_alloc ?_ _)); refine blk_put (cs := #[.int .i64 0, .int .i64 0, .string (⟨#[]⟩ : ByteArray), .bool false]) ?_ 0 _ rfl; (with_reducible repeat (first | refine blk_drewN ?_ _ | refine blk_drew ?_ | refine blk_alloc ?_ _)); exact BK115.out) Tryd.underlying28 rfl (by kernel_rfl)) rfl ?_
  exact ⟨by first | rfl | (simp [errW_none, errW_some] <;> rfl) | (simp [*, errW_none, errW_some] <;> rfl), by repeat (first | (with_reducible first | exact HB.out | apply below_alloc | apply pw_below_drewN | apply below_drew1 | refine below_set ?_ GE115.out) | exact HB.out)⟩

/-! ### stileref01_Num: function 30 -/
def stileref01_Num.f (a0 : Int) : Option (Int × Int × ByteArray × Bool) := some (1, a0, (⟨#[]⟩ : ByteArray), false)
set_option maxHeartbeats 8000000 in
set_option maxRecDepth 100000 in
theorem stileref01_Num.calls (a0 : Int) (r1 : Int) (r2 : Int) (r3 : ByteArray) (r4 : Bool) (w : World) (h : stileref01_Num.f a0 = some (r1, r2, r3, r4)) :
    Calls Tryd.prog 30 #[.int .i64 a0] w fun e w' => e = .returned (.agg #[.int .i64 r1, .int .i64 r2, .string r3, .bool r4]) ∧ Below w.heap.size w w' := by
  have hu28 := Tryd.underlying28
  have HB := Aside0.mk (Below.refl w.heap.size w)
  have H : (some (1, a0, (⟨#[]⟩ : ByteArray), false)) = some (r1, r2, r3, r4) := h
  clear h
  simp only [Option.some.injEq, Prod.mk.injEq] at H
  obtain ⟨rfl, rfl, rfl, rfl⟩ := H
  go_enter Tryd.func30, Tryd.ntmps30
  go_wp2_with (first | ((with_reducible refine gate_dst (N := 2) rfl ?_); refine box_event ?hg (N := 2) ?hd (cs := #[.int .i64 0, .int .i64 0, .string (⟨#[]⟩ : ByteArray), .bool false]) (t := 28) ?hr ?_; (case hd => rfl); (case hg => rfl); (case hr => first | (go_simp; done) | (go_simp; rfl)); intro gb116 hg w2 hbox hb; have n0_ := Aside0.mk (below_step (by repeat (first | (with_reducible first | exact HB.out | apply below_alloc | apply pw_below_drewN | apply below_drew1) | exact HB.out)) hb); have n1_ := Aside0.mk (hbox); have n2_ := Aside0.mk ((by rw [hg]; exact (below_size (by repeat (first | (with_reducible first | exact HB.out | apply below_alloc | apply pw_below_drewN | apply below_drew1) | exact HB.out))) : w.heap.size ≤ gb116)); have n3_ := Aside0.mk ((by rw [hg]; exact (below_size (by repeat (first | (with_reducible first | exact HB.out | apply below_alloc | apply pw_below_drewN | apply below_drew1) | exact HB.out))) : w.heap.size ≤ gb116)); clear HB; have HB := n0_; have BK116 := n1_; have GW116 := n2_; have GE116 := n3_; clear n0_ n1_ n2_ n3_; clear hb hbox hg; have hcz3_0 : w2.cell? ⟨gb116, 0, none⟩ = some (.int .i64 0) := (blk_cell BK116.out 0).trans rfl; have hcz3_1 : w2.cell? ⟨gb116, 1, none⟩ = some (.int .i64 0) := (blk_cell BK116.out 1).trans rfl; have hcz3_2 : w2.cell? ⟨gb116, 2, none⟩ = some (.string (⟨#[]⟩ : ByteArray)) := (blk_cell BK116.out 2).trans rfl; have hcz3_3 : w2.cell? ⟨gb116, 3, none⟩ = some (.bool false) := (blk_cell BK116.out 3).trans rfl; have hfz3_0 := blk_frozen BK116.out 0; have hfz3_1 := blk_frozen BK116.out 1; have hfz3_2 := blk_frozen BK116.out 2; have hfz3_3 := blk_frozen BK116.out 3))
  refine bodyPost_ret (results_cell_row rfl _ _ gb116 28 #[.int .i64 1, .int .i64 a0, .string (⟨#[]⟩ : ByteArray), .bool false] (0, 0) _ rfl (by (with_reducible repeat (first | refine blk_drewN ?_ _ | refine blk_drew ?_ | refine blk_alloc ?_ _)); refine blk_put (cs := #[.int .i64 1, .int .i64 a0, .string (⟨#[]⟩ : ByteArray), .bool false]) ?_ 3 _ rfl; (with_reducible repeat (first | refine blk_drewN ?_ _ | refine blk_drew ?_ | refine blk_alloc ?_ _)); refine blk_put (cs := #[.int .i64 1, .int .i64 a0, .string (⟨#[]⟩ : ByteArray), .bool false]) ?_ 2 _ rfl; (with_reducible repeat (first | refine blk_drewN ?_ _ | refine blk_drew ?_ | refine blk_alloc ?_ _)); refine blk_put (cs := #[.int .i64 1, .int .i64 0, .string (⟨#[]⟩ : ByteArray), .bool false]) ?_ 1 _ rfl; (with_reducible repeat (first | refine blk_drewN ?_ _ | refine blk_drew ?_ | refine blk_alloc ?_ _)); refine blk_put (cs := #[.int .i64 0, .int .i64 0, .string (⟨#[]⟩ : ByteArray), .bool false]) ?_ 0 _ rfl; (with_reducible repeat (first | refine blk_drewN ?_ _ | refine blk_drew ?_ | refine blk_alloc ?_ _)); exact BK116.out) Tryd.underlying28 rfl (by kernel_rfl)) rfl ?_
  exact ⟨by first | rfl | (simp [errW_none, errW_some] <;> rfl) | (simp [*, errW_none, errW_some] <;> rfl), by repeat (first | (with_reducible first | exact HB.out | apply below_alloc | apply pw_below_drewN | apply below_drew1 | refine below_set ?_ GE116.out) | exact HB.out)⟩

-- NOT PRINTED: function 53 (value_lift)

/-! ### value_Div: function 33, by hand -/
def value_Div.f (a0_0 : Int) (a0_1 : Int) (a0_2 : ByteArray) (a0_3 : Bool) (a1_0 : Int) (a1_1 : Int) (a1_2 : ByteArray) (a1_3 : Bool) : Option (Int × Int × ByteArray × Bool × ByteArray) := some (Go.Proofs.YtlmkhpgnkpgbdaaDoor.Vl.liftF 1 a0_0 a1_0 (Go.Proofs.YtlmkhpgnkpgbdaaDoor.Vl.divF a0_1 a1_1))
theorem value_Div.calls (a0_0 : Int) (a0_1 : Int) (a0_2 : ByteArray) (a0_3 : Bool) (a1_0 : Int) (a1_1 : Int) (a1_2 : ByteArray) (a1_3 : Bool) (r1 : Int) (r2 : Int) (r3 : ByteArray) (r4 : Bool) (r5 : ByteArray) (w : World) (h : value_Div.f a0_0 a0_1 a0_2 a0_3 a1_0 a1_1 a1_2 a1_3 = some (r1, r2, r3, r4, r5)) :
    Calls Tryd.prog 33 #[.agg #[.int .i64 a0_0, .int .i64 a0_1, .string a0_2, .bool a0_3], .agg #[.int .i64 a1_0, .int .i64 a1_1, .string a1_2, .bool a1_3]] w fun e w' => e = .returned (.tuple #[.agg #[.int .i64 r1, .int .i64 r2, .string r3, .bool r4], .string r5]) ∧ Below w.heap.size w w' := by
  exact Go.Proofs.YtlmkhpgnkpgbdaaDoor.Vl.div_raw _ _ _ _ _ _ _ _ r1 r2 r3 r4 r5 w (Option.some.inj h)

end Go.Proofs.YtlmkhpgnkpgbdaaDoor.PSU2

namespace Go.Proofs.YtlmkhpgnkpgbdaaDoor.PSU2
open Go.RowKit Go.Proofs.YtlmkhpgnkpgbdaaDoorW.PrintWords Go.Proofs.YtlmkhpgnkpgbdaaDoorW.PrintLast Go.Proofs.YtlmkhpgnkpgbdaaDoorW.PrintMore
attribute [local go_sem] max2_int min2_int max_two min_two max_three min_three max_four min_four   -- for this text's walks alone
set_option linter.unusedVariables false
set_option linter.unusedSimpArgs false

/-! ### stilelaw01_pick: function 17 -/
def stilelaw01_pick.f (a0 : Int) (a1 : Int) : Option (Int) := if a0 < 0 then (if a1 = 0 then (none) else (some (Int.tmod (wrap64 (-(wrap64 (a0 + 1)))) a1))) else (if a1 = 0 then (none) else (some (Int.tmod a0 a1)))
set_option maxHeartbeats 8000000 in
set_option maxRecDepth 100000 in
theorem stilelaw01_pick.calls (a0 : Int) (a1 : Int) (r : Int) (w : World) (h : stilelaw01_pick.f a0 a1 = some r) :
    Calls Tryd.prog 17 #[.int .i64 a0, .int .i64 a1] w fun e w' => e = .returned (.int .i64 r) ∧ Below w.heap.size w w' := by
  have HB := Aside0.mk (Below.refl w.heap.size w)
  have H : (if a0 < 0 then (if a1 = 0 then (none) else (some (Int.tmod (wrap64 (-(wrap64 (a0 + 1)))) a1))) else (if a1 = 0 then (none) else (some (Int.tmod a0 a1)))) = some r := h
  clear h
  by_cases c3 : a0 < 0
  · rw [if_pos c3] at H
    have c3b0 : decide (a0 < 0) = true := decide_eq_true c3
    clear c3
    by_cases c4 : a1 = 0
    · rw [if_pos c4] at H
      exact absurd H (by simp)
    · rw [if_neg c4] at H
      have c4b0 : (a1 == 0) = false := beq_eq_false_iff_ne.mpr c4
      have c4b1 : (a1 != 0) = true := bne_iff_ne.mpr c4
      obtain rfl := Option.some.inj H
      go_enter Tryd.func17, Tryd.ntmps17
      go_wp2
      go_ret
      exact ⟨by first | rfl | (simp [errW_none, errW_some] <;> rfl) | (simp [*, errW_none, errW_some] <;> rfl), by repeat (first | (with_reducible first | exact HB.out | apply below_alloc | apply pw_below_drewN | apply below_drew1) | exact HB.out)⟩
  · rw [if_neg c3] at H
    have c3b0 : decide (a0 < 0) = false := decide_eq_false c3
    clear c3
    by_cases c5 : a1 = 0
    · rw [if_pos c5] at H
      exact absurd H (by simp)
    · rw [if_neg c5] at H
      have c5b0 : (a1 == 0) = false := beq_eq_false_iff_ne.mpr c5
      have c5b1 : (a1 != 0) = true := bne_iff_ne.mpr c5
      obtain rfl := Option.some.inj H
      go_enter Tryd.func17, Tryd.ntmps17
      go_wp2
      go_ret
      exact ⟨by first | rfl | (simp [errW_none, errW_some] <;> rfl) | (simp [*, errW_none, errW_some] <;> rfl), by repeat (first | (with_reducible first | exact HB.out | apply below_alloc | apply pw_below_drewN | apply below_drew1) | exact HB.out)⟩

end Go.Proofs.YtlmkhpgnkpgbdaaDoor.PSU2
