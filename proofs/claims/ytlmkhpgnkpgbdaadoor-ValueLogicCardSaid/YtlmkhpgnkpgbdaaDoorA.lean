/- SQL's values: contracts of the small functions. -/
import Derived.Test.YtlmkhpgnkpgbdaaDoorProg
import Derived.WalkKit
import Derived.WalkLawsBesides
import Derived.WalkSpells
import Derived.Lib.Hide
import Derived.Deep.QuietTactic
import Derived.BigQuiet
namespace Go.Proofs.YtlmkhpgnkpgbdaaDoor
open Go.RowKit
set_option linter.unusedVariables false
set_option linter.unusedSimpArgs false
namespace Vl
/-- the world w' is w, but for what was made since -/
def Nw (w w' : World) : Prop := Below w.heap.size w w'
theorem Nw.refl (w : World) : Nw w w := Below.refl _ _
theorem Nw.alloc {a w : World} (h : Nw a w) (o : Obj) : Nw a (w.alloc o) := Below.alloc h (Below.size h) o
theorem Nw.drew {a w : World} (h : Nw a w) : Nw a w.drew := Below.drew h
theorem Nw.setCell {a w : World} (h : Nw a w) {p : Addr} (hp : a.heap.size ≤ p.block) (u : Value) : Nw a (w.setCell p u) := Below.setCell h hp u
theorem Nw.to {a b c : World} (h : Nw a b) (k : Nw b c) : Nw a c := Below.trans h (Below.mono k (Below.size h))
theorem Nw.below {w w' : World} (h : Nw w w') : Below w.heap.size w w' := h
theorem Nw.blk {b c : World} (h : Nw b c) {g : Nat} {o : Obj} (k : b.heap[g]? = some o) : c.heap[g]? = some o := by
  have hg : g < b.heap.size := by
    by_cases hh : g < b.heap.size
    · exact hh
    · rw [Array.getElem?_eq_none (by omega)] at k; cases k
  exact (Below.block h g hg).trans k
theorem Nw.at_ {b c : World} (h : Nw b c) (g : Nat) (hg : g < b.heap.size) : (∀ o, c.cell? ⟨g, o, none⟩ = b.cell? ⟨g, o, none⟩) ∧ (∀ o, c.frozen? ⟨g, o, none⟩ = b.frozen? ⟨g, o, none⟩) :=
  ⟨fun o => Below.cell (p := ⟨g, o, none⟩) h hg, fun o => Below.frozen (p := ⟨g, o, none⟩) h hg⟩
theorem Nw.size {b c : World} (h : Nw b c) : b.heap.size ≤ c.heap.size := Below.size h
theorem blk_cell {w : World} {g : Nat} {c : Array Value} {t : TypeId} {f : Nat × Nat} (h : w.heap[g]? = some (.cells c t f)) (i : Nat) : w.cell? ⟨g, i, none⟩ = c[i]? := by simp [World.cell?, h]
theorem ret_bool {a b : Bool} (h : a = b) : Ending.returned (.bool a) = .returned (.bool b) := by rw [h]
theorem ret_int {k : IntKind} {a b : Int} (h : a = b) : Ending.returned (.int k a) = .returned (.int k b) := by rw [h]

/-- the values that are right -/
inductive Vl where
  | null
  | num (n : Int)
  | text (s : ByteArray)
  | bool (b : Bool)
abbrev E : ByteArray := ⟨#[]⟩
def Vl.k : Vl → Int
  | .null => 0
  | .num _ => 1
  | .text _ => 2
  | .bool _ => 3
def Vl.n : Vl → Int
  | .num n => n
  | _ => 0
def Vl.s : Vl → ByteArray
  | .text s => s
  | _ => E
def Vl.b : Vl → Bool
  | .bool b => b
  | _ => false
abbrev sDone : ByteArray := ⟨#[48, 48, 48, 48, 48]⟩
abbrev sRange : ByteArray := ⟨#[50, 50, 48, 48, 51]⟩
abbrev sMis : ByteArray := ⟨#[52, 50, 56, 48, 52]⟩
theorem blk_frozen {w : World} {g : Nat} {c : Array Value} {t : TypeId} (h : w.heap[g]? = some (.cells c t (0, 0))) (i : Nat) : w.frozen? ⟨g, i, none⟩ = false := by simp [World.frozen?, h]
theorem blk_new (w : World) (o : Obj) : (w.alloc o).heap[w.heap.size]? = some o := by show (w.heap.push _)[_]? = _; simp
theorem blk_lt {w : World} {g : Nat} {o : Obj} (h : w.heap[g]? = some o) : g < w.heap.size := by
  by_cases hh : g < w.heap.size
  · exact hh
  · rw [Array.getElem?_eq_none (by omega)] at h; cases h
theorem num_any (n : Int) (w : World) : Calls Tryd.prog 69 #[.int .i64 n] w fun e w' => e = .returned (.agg #[.int .i64 1, .int .i64 n, .string E, .bool false]) ∧ Nw w w' := by
  go_enter Tryd.func69, Tryd.ntmps69
  go_wp2
  exact bodyPost_ret (v := .agg #[.int .i64 1, .int .i64 n, .string E, .bool false]) (by simp [results, Tryd.results69, go_sem]) rfl ⟨rfl, (Nw.refl w).alloc _⟩
theorem number_t (n : Int) (w : World) : Calls Tryd.prog 59 #[.int .i64 n, .bool true] w fun e w' => e = .returned (.tuple #[.agg #[.int .i64 1, .int .i64 n, .string E, .bool false], .string sDone]) ∧ Nw w w' := by
  go_enter Tryd.func59, Tryd.ntmps59
  go_wp2_with fail
  refine (num_any n _).mono ?_
  rintro e w1 ⟨rfl, hb⟩
  obtain ⟨q1, q2⟩ := hb.at_ w.heap.size (by simp)
  have hz := hb.size
  (try simp at hz)
  have G := Lib.hid (((Nw.refl w).alloc _).to hb)
  clear hb
  go_wp2_with fail
  refine bodyPost_ret (v := .tuple #[.agg #[.int .i64 1, .int .i64 n, .string E, .bool false], .string sDone]) (by simp [results, Tryd.results59, go_sem, q1]) rfl ⟨rfl, ?_⟩
  exact (((G.out.setCell (Nat.le_refl _) _).setCell (Nat.le_refl _) _).setCell (Nat.le_refl _) _).setCell (Nat.le_refl _) _
theorem number_f (n : Int) (w : World) : Calls Tryd.prog 59 #[.int .i64 n, .bool false] w fun e w' => e = .returned (.tuple #[.agg #[.int .i64 0, .int .i64 0, .string E, .bool false], .string sRange]) ∧ Nw w w' := by
  go_enter Tryd.func59, Tryd.ntmps59
  go_wp2
  exact bodyPost_ret (v := .tuple #[.agg #[.int .i64 0, .int .i64 0, .string E, .bool false], .string sRange]) (by simp [results, Tryd.results59, go_sem]) rfl ⟨rfl, (Nw.refl w).alloc _⟩
end Vl
end Go.Proofs.YtlmkhpgnkpgbdaaDoor
