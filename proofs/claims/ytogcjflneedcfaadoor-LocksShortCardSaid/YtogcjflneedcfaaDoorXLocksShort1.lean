/- Texts of this claim, set one behind the other by a program: part 1. -/
import Derived.Test.YtogcjflneedcfaaDoorProg
import Derived.WalkKit
import Derived.WalkLawsBesides
import Derived.WalkSpells
import Derived.Lib.Hide
import Derived.Test.YtogcjflneedcfaaDoorCards
import Derived.Test.YtogcjflneedcfaaDoorTie
import Derived.ProofKit
import Derived.OpenShut
import Derived.ShutString
import Derived.ChangeOld
import Derived.Below
import Derived.SizedLaws
import Derived.Deep.DeepHandedRow
import Derived.Lib.LaidTab
import Derived.Lib.SmallJoins
import Derived.Laws.AppendOwn
import Derived.Deep.QuietTactic
import Derived.BigQuiet
import Derived.Test.YtogcjflneedcfaaDoorWLast
import Derived.Test.YtogcjflneedcfaaDoorWEqStruct
import Derived.LaidEqlPtr
import Derived.Lib.Strings
import Derived.RangeFuncNested
import Derived.RangeFuncBound
import Derived.RangeFuncCalls
import Derived.RangeFuncLeaves
import Derived.Shelf.Abstract
import Derived.Shelf.RegionOpen
import Derived.OwnWalkIn
import Derived.TacticsInMore
import Derived.LoopNIn
import Derived.LoopIn
import Derived.Sort.QuietIn
namespace Go.Proofs.YtogcjflneedcfaaDoor
open Go.RowKit
set_option linter.unusedVariables false
set_option linter.unusedSimpArgs false
namespace Md

def rt (a : Int) : Bool := decide (0 ≤ a) && decide (a ≤ 6)
theorem rt_true {a : Int} (h : rt a = true) : 0 ≤ a ∧ a ≤ 6 := by simpa [rt] using h
theorem rt_false {a : Int} (h : rt a = false) : a < 0 ∨ 6 < a := by simp [rt] at h; omega

def fitsL : List Bool := [true, true, true, true, true, true, true, true, true, true, true, true, true, false, true, true, true, false, false, false, false, true, true, false, true, false, true, false, true, true, false, false, false, false, false, true, true, false, false, false, false, false, true, false, false, false, false, false, false]
def covL : List Int := [1, 3, 7, 11, 31, 43, 127]
/-- what the two package-level tables hold -/
structure Gl (w : World) : Prop where
  size : 2 ≤ w.heap.size
  fits : ∀ i, i < 49 → w.cell? ⟨1, i, none⟩ = some (.bool (fitsL.getD i false))
  cov : ∀ i, i < 7 → w.cell? ⟨0, i, none⟩ = some (.int .u64 (covL.getD i 0))
/-- the world now: what was there when the call began is as it was, the tables among it -/
structure St (w0 w : World) : Prop where
  b : Below w0.heap.size w0 w
  g : Gl w0
theorem St.gl {w0 w : World} (h : St w0 w) : Gl w where
  size := Nat.le_trans h.g.size h.b.size
  fits i hi := by rw [h.b.cell (show 1 < w0.heap.size by have := h.g.size; omega)]; exact h.g.fits i hi
  cov i hi := by rw [h.b.cell (show 0 < w0.heap.size by have := h.g.size; omega)]; exact h.g.cov i hi
theorem St.refl {w : World} (g : Gl w) : St w w := ⟨Below.refl _ _, g⟩
theorem St.alloc {w0 w : World} (h : St w0 w) (o : Obj) : St w0 (w.alloc o) := ⟨h.b.alloc h.b.size o, h.g⟩
theorem St.drew {w0 w : World} (h : St w0 w) : St w0 w.drew := ⟨h.b.drew, h.g⟩
theorem St.drewN {w0 w : World} (h : St w0 w) (n : Nat) : St w0 (w.drewN n) := ⟨h.b.trans ⟨rfl, rfl, rfl, Nat.le_refl _, fun _ _ => rfl⟩, h.g⟩
def fitsB (a b : Int) : Bool := rt a && rt b && fitsL.getD (a.toNat * 7 + b.toNat) false
def bitI (z b : Int) : Bool := bits BinOp.and IntKind.u64 (z / 2 ^ b.toNat) 1 == 1
def covB (a b : Int) : Bool := rt a && rt b && bitI (covL.getD a.toNat 0) b
theorem dec_t {a : Int} (h : rt a = true) : a = 0 ∨ a = 1 ∨ a = 2 ∨ a = 3 ∨ a = 4 ∨ a = 5 ∨ a = 6 := by have := rt_true h; omega

theorem right_any (a : Int) (w : World) : Calls Tryd.prog 46 #[.int .i64 a] w fun e w' => e = .returned (.bool (rt a)) ∧ w = w' := by
  cases h : rt a
  · rcases rt_false h with h1 | h1 <;> clear h
    all_goals go_enter Tryd.func46, Tryd.ntmps46
    all_goals go_wp2
    all_goals go_ret
    · exact ⟨rfl, rfl⟩
    · exact ⟨by simp; omega, rfl⟩
  · obtain ⟨h1, h2⟩ := rt_true h
    clear h
    go_enter Tryd.func46, Tryd.ntmps46
    go_wp2
    go_ret
    exact ⟨rfl, rfl⟩
theorem right_b (a : Int) (r : Bool) (h : rt a = r) (w : World) : Calls Tryd.prog 46 #[.int .i64 a] w fun e w' => e = .returned (.bool r) ∧ w = w' := h ▸ right_any a w
theorem fits_any {w0 : World} (a b : Int) (w : World) (s : St w0 w) : Calls Tryd.prog 76 #[.int .i64 a, .int .i64 b] w fun e w' => e = .returned (.bool (fitsB a b)) ∧ w = w' := by
  unfold fitsB
  cases ha : rt a
  · go_enter Tryd.func76, Tryd.ntmps76
    go_wp2_with (go_at_call 46; refine (right_b _ _ ha _).mono ?_; rintro e w' ⟨rfl, rfl⟩)
    go_ret
    exact ⟨rfl, rfl⟩
  · cases hb : rt b
    · go_enter Tryd.func76, Tryd.ntmps76
      go_wp2_with (go_at_call 46; first | ((with_reducible refine (right_b _ _ ha _).mono ?_); rintro e w' ⟨rfl, rfl⟩) | ((with_reducible refine (right_b _ _ hb _).mono ?_); rintro e w' ⟨rfl, rfl⟩))
      go_ret
      exact ⟨rfl, rfl⟩
    · obtain ⟨A1, A2⟩ := rt_true ha
      obtain ⟨B1, B2⟩ := rt_true hb
      have hc := s.gl.fits (a.toNat * 7 + b.toNat) (by omega)
      generalize fitsL.getD (a.toNat * 7 + b.toNat) false = r at *
      go_enter Tryd.func76, Tryd.ntmps76
      go_wp2_with (go_at_call 46; first | ((with_reducible refine (right_b _ _ ha _).mono ?_); rintro e w' ⟨rfl, rfl⟩) | ((with_reducible refine (right_b _ _ hb _).mono ?_); rintro e w' ⟨rfl, rfl⟩))
      go_ret
      exact ⟨by simp, rfl⟩
theorem cov_any {w0 : World} (a b : Int) (w : World) (s : St w0 w) : Calls Tryd.prog 62 #[.int .i64 a, .int .i64 b] w fun e w' => e = .returned (.bool (covB a b)) ∧ w = w' := by
  unfold covB
  cases ha : rt a
  · go_enter Tryd.func62, Tryd.ntmps62
    go_wp2_with (go_at_call 46; refine (right_b _ _ ha _).mono ?_; rintro e w' ⟨rfl, rfl⟩)
    go_ret
    exact ⟨rfl, rfl⟩
  · cases hb : rt b
    · go_enter Tryd.func62, Tryd.ntmps62
      go_wp2_with (go_at_call 46; first | ((with_reducible refine (right_b _ _ ha _).mono ?_); rintro e w' ⟨rfl, rfl⟩) | ((with_reducible refine (right_b _ _ hb _).mono ?_); rintro e w' ⟨rfl, rfl⟩))
      go_ret
      exact ⟨rfl, rfl⟩
    · obtain ⟨A1, A2⟩ := rt_true ha
      obtain ⟨B1, B2⟩ := rt_true hb
      have hc := s.gl.cov a.toNat (by omega)
      generalize covL.getD a.toNat 0 = z at *
      go_enter Tryd.func62, Tryd.ntmps62
      go_wp2_with (go_at_call 46; first | ((with_reducible refine (right_b _ _ ha _).mono ?_); rintro e w' ⟨rfl, rfl⟩) | ((with_reducible refine (right_b _ _ hb _).mono ?_); rintro e w' ⟨rfl, rfl⟩))
      go_ret
      exact ⟨by simp [bitI], rfl⟩
theorem cov_b {w0 : World} (a b : Int) (r : Bool) (h : covB a b = r) (w : World) (s : St w0 w) : Calls Tryd.prog 62 #[.int .i64 a, .int .i64 b] w fun e w' => e = .returned (.bool r) ∧ w = w' := h ▸ cov_any a b w s
theorem fits_b {w0 : World} (a b : Int) (r : Bool) (h : fitsB a b = r) (w : World) (s : St w0 w) : Calls Tryd.prog 76 #[.int .i64 a, .int .i64 b] w fun e w' => e = .returned (.bool r) ∧ w = w' := h ▸ fits_any a b w s

theorem find_at (p : Nat → Bool) (n k : Nat) (hk : k < n) (h : p k = true) (hl : ∀ j, j < k → p j = false) : (List.range n).find? p = some k := by
  rw [List.find?_range_eq_some]
  exact ⟨h, by simpa using hk, fun j hj => by simp [hl j hj]⟩
theorem find_no (p : Nat → Bool) (n : Nat) (hl : ∀ j, j < n → p j = false) : (List.range n).find? p = none := by
  rw [List.find?_range_eq_none]
  exact fun j hj => by simp [hl j hj]
end Md
end Go.Proofs.YtogcjflneedcfaaDoor

namespace Go.Proofs.YtogcjflneedcfaaDoor
open Go.RowKit
set_option linter.unusedVariables false
set_option linter.unusedSimpArgs false
namespace Md
/-- '<' on strings is the lexical order of their bytes -/
theorem bytesLess_eq : ∀ (x y : List UInt8), Op.bytesLess x y = decide (x < y)
  | [], [] => by simp [Op.bytesLess]
  | _ :: _, [] => by simp [Op.bytesLess]
  | [], _ :: _ => by simp [Op.bytesLess]
  | a :: x, b :: y => by
    rw [Op.bytesLess, bytesLess_eq x y]
    simp only [List.cons_lt_cons_iff]
    by_cases h1 : a < b <;> by_cases h2 : a = b <;> by_cases h3 : x < y <;> simp [h1, h2, h3]
theorem ret_bool {a b : Bool} (h : a = b) : Ending.returned (.bool a) = .returned (.bool b) := by rw [h]
def pl (s : Int) (t l u : ByteArray) (e : Bool) : Bool := if s < 0 then false else if 7 < s then false else if s = 0 then t.toList.isEmpty && l.toList.isEmpty && u.toList.isEmpty && !e else if s = 1 then !t.toList.isEmpty && l.toList.isEmpty && u.toList.isEmpty && !e else !t.toList.isEmpty && (if e then u.toList.isEmpty else (Op.bytesLess l.toList u.toList || l.toList == u.toList))
theorem pl_neg (s : Int) (t l u : ByteArray) (e : Bool) (h0 : s < 0) : pl s t l u e = false := by simp [pl, h0]
theorem pl_big (s : Int) (t l u : ByteArray) (e : Bool) (h0 : 7 < s) : pl s t l u e = false := by simp [pl, h0]
theorem pl_0 (t l u : ByteArray) (e : Bool) : pl 0 t l u e = (t.toList.isEmpty && l.toList.isEmpty && u.toList.isEmpty && !e) := by simp [pl]
theorem pl_1 (t l u : ByteArray) (e : Bool) : pl 1 t l u e = (!t.toList.isEmpty && l.toList.isEmpty && u.toList.isEmpty && !e) := by simp [pl]
theorem pl_mid (s : Int) (t l u : ByteArray) (e : Bool) (h0 : 2 ≤ s) (h1 : s ≤ 7) : pl s t l u e = (!t.toList.isEmpty && (if e then u.toList.isEmpty else (Op.bytesLess l.toList u.toList || l.toList == u.toList))) := by
  unfold pl; rw [if_neg (by omega), if_neg (by omega), if_neg (by omega), if_neg (by omega)]
/-- of one space and table, both right -/
def al (s1 : Int) (t1 l1 u1 : ByteArray) (e1 : Bool) (s2 : Int) (t2 l2 u2 : ByteArray) (e2 : Bool) : Bool := pl s1 t1 l1 u1 e1 && pl s2 t2 l2 u2 e2 && s1 == s2 && t1.toList == t2.toList
def up (k : ByteArray) (s : Int) (t l u : ByteArray) (e : Bool) : Bool := decide (s < 2) || e || (Op.bytesLess k.toList u.toList || k.toList == u.toList)
def meetB (s1 : Int) (t1 l1 u1 : ByteArray) (e1 : Bool) (s2 : Int) (t2 l2 u2 : ByteArray) (e2 : Bool) : Bool := al s1 t1 l1 u1 e1 s2 t2 l2 u2 e2 && up l1 s2 t2 l2 u2 e2 && up l2 s1 t1 l1 u1 e1
def withB (s1 : Int) (t1 l1 u1 : ByteArray) (e1 : Bool) (s2 : Int) (t2 l2 u2 : ByteArray) (e2 : Bool) : Bool := al s1 t1 l1 u1 e1 s2 t2 l2 u2 e2 && !(Op.bytesLess l1.toList l2.toList) && (e2 || !e1 && up u1 s2 t2 l2 u2 e2)

theorem place_neg {w0 : World} (s : Int) (t l u : ByteArray) (e : Bool) (w : World) (g : St w0 w) (h0 : s < 0) : Calls Tryd.prog 45 #[.agg #[.int .i64 s, .string t, .string l, .string u, .bool e]] w fun e' w' => e' = .returned (.bool (pl s t l u e)) ∧ St w0 w' := by
  rw [pl_neg _ _ _ _ _ h0]
  cases e
  all_goals (try simp only [Bool.false_eq_true, if_false, if_true])
  all_goals go_enter Tryd.func45, Tryd.ntmps45
  all_goals go_wp2
  all_goals go_ret
  all_goals refine ⟨ret_bool ?_, g.alloc _⟩
  all_goals first | (exfalso; omega) | (simp [*]; done) | (cases q1 : t.toList.isEmpty <;> cases q3 : l.toList.isEmpty <;> cases q4 : u.toList.isEmpty <;> simp_all <;> omega)
theorem place_big {w0 : World} (s : Int) (t l u : ByteArray) (e : Bool) (w : World) (g : St w0 w) (h0 : 7 < s) : Calls Tryd.prog 45 #[.agg #[.int .i64 s, .string t, .string l, .string u, .bool e]] w fun e' w' => e' = .returned (.bool (pl s t l u e)) ∧ St w0 w' := by
  rw [pl_big _ _ _ _ _ h0]
  cases e
  all_goals (try simp only [Bool.false_eq_true, if_false, if_true])
  all_goals go_enter Tryd.func45, Tryd.ntmps45
  all_goals go_wp2
  all_goals go_ret
  all_goals refine ⟨ret_bool ?_, g.alloc _⟩
  all_goals first | (exfalso; omega) | (simp [*]; done) | (cases q1 : t.toList.isEmpty <;> cases q3 : l.toList.isEmpty <;> cases q4 : u.toList.isEmpty <;> simp_all <;> omega)
theorem place_0 {w0 : World} (s : Int) (t l u : ByteArray) (e : Bool) (w : World) (g : St w0 w) (h0 : s = 0) : Calls Tryd.prog 45 #[.agg #[.int .i64 s, .string t, .string l, .string u, .bool e]] w fun e' w' => e' = .returned (.bool (pl s t l u e)) ∧ St w0 w' := by
  subst h0
  rw [pl_0]
  cases e
  all_goals (try simp only [Bool.false_eq_true, if_false, if_true])
  all_goals go_enter Tryd.func45, Tryd.ntmps45
  all_goals go_wp2
  all_goals go_ret
  all_goals refine ⟨ret_bool ?_, g.alloc _⟩
  all_goals first | (exfalso; omega) | (simp [*]; done) | (cases q1 : t.toList.isEmpty <;> cases q3 : l.toList.isEmpty <;> cases q4 : u.toList.isEmpty <;> simp_all <;> omega)
theorem place_1 {w0 : World} (s : Int) (t l u : ByteArray) (e : Bool) (w : World) (g : St w0 w) (h0 : s = 1) : Calls Tryd.prog 45 #[.agg #[.int .i64 s, .string t, .string l, .string u, .bool e]] w fun e' w' => e' = .returned (.bool (pl s t l u e)) ∧ St w0 w' := by
  subst h0
  rw [pl_1]
  cases e
  all_goals (try simp only [Bool.false_eq_true, if_false, if_true])
  all_goals go_enter Tryd.func45, Tryd.ntmps45
  all_goals go_wp2
  all_goals go_ret
  all_goals refine ⟨ret_bool ?_, g.alloc _⟩
  all_goals first | (exfalso; omega) | (simp [*]; done) | (cases q1 : t.toList.isEmpty <;> cases q3 : l.toList.isEmpty <;> cases q4 : u.toList.isEmpty <;> simp_all <;> omega)
set_option maxHeartbeats 2000000 in
theorem place_mid {w0 : World} (s : Int) (t l u : ByteArray) (e : Bool) (w : World) (g : St w0 w) (h0 : 2 ≤ s) (h1 : s ≤ 7) : Calls Tryd.prog 45 #[.agg #[.int .i64 s, .string t, .string l, .string u, .bool e]] w fun e' w' => e' = .returned (.bool (pl s t l u e)) ∧ St w0 w' := by
  rw [pl_mid _ _ _ _ _ h0 h1]
  have z0 : (s == 0) = false := by simp; omega
  cases e
  all_goals (try simp only [Bool.false_eq_true, if_false, if_true])
  all_goals go_enter Tryd.func45, Tryd.ntmps45
  all_goals go_wp2
  all_goals go_ret
  all_goals refine ⟨ret_bool ?_, g.alloc _⟩
  all_goals first | (exfalso; omega) | (simp [*]; done) | (cases q1 : t.toList.isEmpty <;> cases q3 : l.toList.isEmpty <;> cases q4 : u.toList.isEmpty <;> simp_all <;> omega)
theorem place_any {w0 : World} (s : Int) (t l u : ByteArray) (e : Bool) (w : World) (g : St w0 w) : Calls Tryd.prog 45 #[.agg #[.int .i64 s, .string t, .string l, .string u, .bool e]] w fun e' w' => e' = .returned (.bool (pl s t l u e)) ∧ St w0 w' := by
  have five : s < 0 ∨ s = 0 ∨ s = 1 ∨ (2 ≤ s ∧ s ≤ 7) ∨ 7 < s := by omega
  rcases five with h0 | h0 | h0 | ⟨h0, h1⟩ | h0
  · exact place_neg _ _ _ _ _ w g h0
  · exact place_0 _ _ _ _ _ w g h0
  · exact place_1 _ _ _ _ _ w g h0
  · exact place_mid _ _ _ _ _ w g h0 h1
  · exact place_big _ _ _ _ _ w g h0
end Md
end Go.Proofs.YtogcjflneedcfaaDoor

namespace Go.Proofs.YtogcjflneedcfaaDoor
open Go.RowKit
set_option linter.unusedVariables false
set_option linter.unusedSimpArgs false
namespace Md
theorem blk_cell {w : World} {g : Nat} {c : Array Value} {t : TypeId} {f : Nat × Nat} (h : w.heap[g]? = some (.cells c t f)) (i : Nat) : w.cell? ⟨g, i, none⟩ = c[i]? := by simp [World.cell?, h]
theorem St.to {w0 w w' : World} (h : St w0 w) (h' : St w w') : St w0 w' := ⟨h.b.trans (h'.b.mono h.b.size), h.g⟩
theorem St.self {w0 w : World} (h : St w0 w) : St w w := St.refl h.gl
/-- two boxes of the call's own, laid behind w -/
structure Bx (w v : World) (a b : Array Value) : Prop where
  a : v.heap[w.heap.size]? = some (.cells a 30)
  b : v.heap[w.heap.size + 1]? = some (.cells b 30)
  z : w.heap.size + 1 < v.heap.size
theorem Bx.start (w : World) (a b : Array Value) : Bx w ((w.alloc (.cells a 30)).alloc (.cells b 30)) a b where
  a := by rw [Below.heap_alloc _ _ _ (by simp)]; show (w.heap.push _)[_]? = _; simp
  b := by show ((w.heap.push _).push _)[_]? = _; rw [Array.getElem?_push, if_pos (by simp)]
  z := by simp
theorem Bx.step {w v v' : World} {a b : Array Value} (h : Bx w v a b) (k : St v v') : Bx w v' a b where
  a := (k.b.block _ (by have := h.z; omega)).trans h.a
  b := (k.b.block _ h.z).trans h.b
  z := Nat.lt_of_lt_of_le h.z k.b.size
theorem alike_any {w0 : World} (s1 : Int) (t1 l1 u1 : ByteArray) (e1 : Bool) (s2 : Int) (t2 l2 u2 : ByteArray) (e2 : Bool) (w : World) (g : St w0 w) : Calls Tryd.prog 73 #[.agg #[.int .i64 s1, .string t1, .string l1, .string u1, .bool e1], .agg #[.int .i64 s2, .string t2, .string l2, .string u2, .bool e2]] w fun e' w' => e' = .returned (.bool (al s1 t1 l1 u1 e1 s2 t2 l2 u2 e2)) ∧ St w0 w' := by
  have G := Lib.hid ((g.alloc (.cells #[.int .i64 s1, .string t1, .string l1, .string u1, .bool e1] 30)).alloc (.cells #[.int .i64 s2, .string t2, .string l2, .string u2, .bool e2] 30))
  have X := Lib.hid (Bx.start w #[.int .i64 s1, .string t1, .string l1, .string u1, .bool e1] #[.int .i64 s2, .string t2, .string l2, .string u2, .bool e2])
  clear g
  go_enter Tryd.func73, Tryd.ntmps73
  go_wp2_with fail
  refine (place_any _ _ _ _ _ _ G.out.self).mono ?_
  rintro e w1 ⟨he, hb⟩
  have X1 := Lib.hid (X.out.step hb)
  have G1 := Lib.hid (G.out.to hb)
  clear hb
  have c10 : w1.cell? ⟨w.heap.size, 0, none⟩ = some (.int .i64 s1) := (blk_cell X1.out.a 0).trans rfl
  have c11 : w1.cell? ⟨w.heap.size, 1, none⟩ = some (.string t1) := (blk_cell X1.out.a 1).trans rfl
  have c12 : w1.cell? ⟨w.heap.size, 2, none⟩ = some (.string l1) := (blk_cell X1.out.a 2).trans rfl
  have c13 : w1.cell? ⟨w.heap.size, 3, none⟩ = some (.string u1) := (blk_cell X1.out.a 3).trans rfl
  have c14 : w1.cell? ⟨w.heap.size, 4, none⟩ = some (.bool e1) := (blk_cell X1.out.a 4).trans rfl
  have c20 : w1.cell? ⟨w.heap.size + 1, 0, none⟩ = some (.int .i64 s2) := (blk_cell X1.out.b 0).trans rfl
  have c21 : w1.cell? ⟨w.heap.size + 1, 1, none⟩ = some (.string t2) := (blk_cell X1.out.b 1).trans rfl
  have c22 : w1.cell? ⟨w.heap.size + 1, 2, none⟩ = some (.string l2) := (blk_cell X1.out.b 2).trans rfl
  have c23 : w1.cell? ⟨w.heap.size + 1, 3, none⟩ = some (.string u2) := (blk_cell X1.out.b 3).trans rfl
  have c24 : w1.cell? ⟨w.heap.size + 1, 4, none⟩ = some (.bool e2) := (blk_cell X1.out.b 4).trans rfl
  cases p : pl s1 t1 l1 u1 e1 <;> rw [p] at he <;> subst he <;> (have P1 := Lib.hid p; clear p)
  · go_wp2_with fail
    all_goals go_ret
    all_goals exact ⟨ret_bool (by first | (simp [al, P1.out]; done) | (simp [al, P1.out, *]; done) | (have P1x := P1.out; simp_all [al]; done) | skip), G1.out⟩
  · go_wp2_with fail
    clear c10 c11 c12 c13 c14 c20 c21 c22 c23 c24
    refine (place_any _ _ _ _ _ _ G1.out.self).mono ?_
    rintro e w2 ⟨he, hb⟩
    have X2 := Lib.hid (X1.out.step hb)
    have G2 := Lib.hid (G1.out.to hb)
    clear hb
    have c10 : w2.cell? ⟨w.heap.size, 0, none⟩ = some (.int .i64 s1) := (blk_cell X2.out.a 0).trans rfl
    have c11 : w2.cell? ⟨w.heap.size, 1, none⟩ = some (.string t1) := (blk_cell X2.out.a 1).trans rfl
    have c12 : w2.cell? ⟨w.heap.size, 2, none⟩ = some (.string l1) := (blk_cell X2.out.a 2).trans rfl
    have c13 : w2.cell? ⟨w.heap.size, 3, none⟩ = some (.string u1) := (blk_cell X2.out.a 3).trans rfl
    have c14 : w2.cell? ⟨w.heap.size, 4, none⟩ = some (.bool e1) := (blk_cell X2.out.a 4).trans rfl
    have c20 : w2.cell? ⟨w.heap.size + 1, 0, none⟩ = some (.int .i64 s2) := (blk_cell X2.out.b 0).trans rfl
    have c21 : w2.cell? ⟨w.heap.size + 1, 1, none⟩ = some (.string t2) := (blk_cell X2.out.b 1).trans rfl
    have c22 : w2.cell? ⟨w.heap.size + 1, 2, none⟩ = some (.string l2) := (blk_cell X2.out.b 2).trans rfl
    have c23 : w2.cell? ⟨w.heap.size + 1, 3, none⟩ = some (.string u2) := (blk_cell X2.out.b 3).trans rfl
    have c24 : w2.cell? ⟨w.heap.size + 1, 4, none⟩ = some (.bool e2) := (blk_cell X2.out.b 4).trans rfl
    cases p : pl s2 t2 l2 u2 e2 <;> rw [p] at he <;> subst he <;> (have P2 := Lib.hid p; clear p)
    · go_wp2_with fail
      all_goals go_ret
      all_goals exact ⟨ret_bool (by first | (simp [al, P1.out, P2.out]; done) | (simp [al, P1.out, P2.out, *]; done) | (have P1x := P1.out; have P2x := P2.out; simp_all [al]; done) | skip), G2.out⟩
    · go_wp2_with fail
      all_goals go_ret
      all_goals exact ⟨ret_bool (by first | (simp [al, P1.out, P2.out]; done) | (simp [al, P1.out, P2.out, *]; done) | (have P1x := P1.out; have P2x := P2.out; simp_all [al]; done) | skip), G2.out⟩
theorem upto_any {w0 : World} (k : ByteArray) (s : Int) (t l u : ByteArray) (e : Bool) (w : World) (g : St w0 w) : Calls Tryd.prog 74 #[.string k, .agg #[.int .i64 s, .string t, .string l, .string u, .bool e]] w fun e' w' => e' = .returned (.bool (up k s t l u e)) ∧ St w0 w' := by
  cases e
  all_goals go_enter Tryd.func74, Tryd.ntmps74
  all_goals go_wp2
  all_goals go_ret
  all_goals refine ⟨ret_bool ?_, g.alloc _⟩
  all_goals first | (simp [up]; done) | (simp [up, *]; done) | (simp [up]; omega)
set_option maxHeartbeats 1000000 in
theorem meet_any {w0 : World} (s1 : Int) (t1 l1 u1 : ByteArray) (e1 : Bool) (s2 : Int) (t2 l2 u2 : ByteArray) (e2 : Bool) (w : World) (g : St w0 w) : Calls Tryd.prog 75 #[.agg #[.int .i64 s1, .string t1, .string l1, .string u1, .bool e1], .agg #[.int .i64 s2, .string t2, .string l2, .string u2, .bool e2]] w fun e' w' => e' = .returned (.bool (meetB s1 t1 l1 u1 e1 s2 t2 l2 u2 e2)) ∧ St w0 w' := by
  have G := Lib.hid ((g.alloc (.cells #[.int .i64 s1, .string t1, .string l1, .string u1, .bool e1] 30)).alloc (.cells #[.int .i64 s2, .string t2, .string l2, .string u2, .bool e2] 30))
  have X := Lib.hid (Bx.start w #[.int .i64 s1, .string t1, .string l1, .string u1, .bool e1] #[.int .i64 s2, .string t2, .string l2, .string u2, .bool e2])
  clear g
  go_enter Tryd.func75, Tryd.ntmps75
  go_wp2_with fail
  refine (alike_any _ _ _ _ _ _ _ _ _ _ _ G.out.self).mono ?_
  rintro e w1 ⟨he, hb⟩
  have X1 := Lib.hid (X.out.step hb)
  have G1 := Lib.hid (G.out.to hb)
  clear hb
  have c10 : w1.cell? ⟨w.heap.size, 0, none⟩ = some (.int .i64 s1) := (blk_cell X1.out.a 0).trans rfl
  have c11 : w1.cell? ⟨w.heap.size, 1, none⟩ = some (.string t1) := (blk_cell X1.out.a 1).trans rfl
  have c12 : w1.cell? ⟨w.heap.size, 2, none⟩ = some (.string l1) := (blk_cell X1.out.a 2).trans rfl
  have c13 : w1.cell? ⟨w.heap.size, 3, none⟩ = some (.string u1) := (blk_cell X1.out.a 3).trans rfl
  have c14 : w1.cell? ⟨w.heap.size, 4, none⟩ = some (.bool e1) := (blk_cell X1.out.a 4).trans rfl
  have c20 : w1.cell? ⟨w.heap.size + 1, 0, none⟩ = some (.int .i64 s2) := (blk_cell X1.out.b 0).trans rfl
  have c21 : w1.cell? ⟨w.heap.size + 1, 1, none⟩ = some (.string t2) := (blk_cell X1.out.b 1).trans rfl
  have c22 : w1.cell? ⟨w.heap.size + 1, 2, none⟩ = some (.string l2) := (blk_cell X1.out.b 2).trans rfl
  have c23 : w1.cell? ⟨w.heap.size + 1, 3, none⟩ = some (.string u2) := (blk_cell X1.out.b 3).trans rfl
  have c24 : w1.cell? ⟨w.heap.size + 1, 4, none⟩ = some (.bool e2) := (blk_cell X1.out.b 4).trans rfl
  cases p : al s1 t1 l1 u1 e1 s2 t2 l2 u2 e2 <;> rw [p] at he <;> subst he <;> (have P1 := Lib.hid p; clear p)
  · go_wp2_with fail
    all_goals go_ret
    all_goals exact ⟨ret_bool (by first | (simp [meetB, P1.out]; done) | (simp [meetB, P1.out, *]; done) | (have P1x := P1.out; simp_all [meetB]; done) | skip), G1.out⟩
  · go_wp2_with fail
    clear c10 c11 c12 c13 c14 c20 c21 c22 c23 c24
    refine (upto_any _ _ _ _ _ _ _ G1.out.self).mono ?_
    rintro e w2 ⟨he, hb⟩
    have X2 := Lib.hid (X1.out.step hb)
    have G2 := Lib.hid (G1.out.to hb)
    clear hb
    have c10 : w2.cell? ⟨w.heap.size, 0, none⟩ = some (.int .i64 s1) := (blk_cell X2.out.a 0).trans rfl
    have c11 : w2.cell? ⟨w.heap.size, 1, none⟩ = some (.string t1) := (blk_cell X2.out.a 1).trans rfl
    have c12 : w2.cell? ⟨w.heap.size, 2, none⟩ = some (.string l1) := (blk_cell X2.out.a 2).trans rfl
    have c13 : w2.cell? ⟨w.heap.size, 3, none⟩ = some (.string u1) := (blk_cell X2.out.a 3).trans rfl
    have c14 : w2.cell? ⟨w.heap.size, 4, none⟩ = some (.bool e1) := (blk_cell X2.out.a 4).trans rfl
    have c20 : w2.cell? ⟨w.heap.size + 1, 0, none⟩ = some (.int .i64 s2) := (blk_cell X2.out.b 0).trans rfl
    have c21 : w2.cell? ⟨w.heap.size + 1, 1, none⟩ = some (.string t2) := (blk_cell X2.out.b 1).trans rfl
    have c22 : w2.cell? ⟨w.heap.size + 1, 2, none⟩ = some (.string l2) := (blk_cell X2.out.b 2).trans rfl
    have c23 : w2.cell? ⟨w.heap.size + 1, 3, none⟩ = some (.string u2) := (blk_cell X2.out.b 3).trans rfl
    have c24 : w2.cell? ⟨w.heap.size + 1, 4, none⟩ = some (.bool e2) := (blk_cell X2.out.b 4).trans rfl
    cases p : up l1 s2 t2 l2 u2 e2 <;> rw [p] at he <;> subst he <;> (have P2 := Lib.hid p; clear p)
    · go_wp2_with fail
      all_goals go_ret
      all_goals exact ⟨ret_bool (by first | (simp [meetB, P1.out, P2.out]; done) | (simp [meetB, P1.out, P2.out, *]; done) | (have P1x := P1.out; have P2x := P2.out; simp_all [meetB]; done) | skip), G2.out⟩
    · go_wp2_with fail
      clear c10 c11 c12 c13 c14 c20 c21 c22 c23 c24
      refine (upto_any _ _ _ _ _ _ _ G2.out.self).mono ?_
      rintro e w3 ⟨he, hb⟩
      have X3 := Lib.hid (X2.out.step hb)
      have G3 := Lib.hid (G2.out.to hb)
      clear hb
      have c10 : w3.cell? ⟨w.heap.size, 0, none⟩ = some (.int .i64 s1) := (blk_cell X3.out.a 0).trans rfl
      have c11 : w3.cell? ⟨w.heap.size, 1, none⟩ = some (.string t1) := (blk_cell X3.out.a 1).trans rfl
      have c12 : w3.cell? ⟨w.heap.size, 2, none⟩ = some (.string l1) := (blk_cell X3.out.a 2).trans rfl
      have c13 : w3.cell? ⟨w.heap.size, 3, none⟩ = some (.string u1) := (blk_cell X3.out.a 3).trans rfl
      have c14 : w3.cell? ⟨w.heap.size, 4, none⟩ = some (.bool e1) := (blk_cell X3.out.a 4).trans rfl
      have c20 : w3.cell? ⟨w.heap.size + 1, 0, none⟩ = some (.int .i64 s2) := (blk_cell X3.out.b 0).trans rfl
      have c21 : w3.cell? ⟨w.heap.size + 1, 1, none⟩ = some (.string t2) := (blk_cell X3.out.b 1).trans rfl
      have c22 : w3.cell? ⟨w.heap.size + 1, 2, none⟩ = some (.string l2) := (blk_cell X3.out.b 2).trans rfl
      have c23 : w3.cell? ⟨w.heap.size + 1, 3, none⟩ = some (.string u2) := (blk_cell X3.out.b 3).trans rfl
      have c24 : w3.cell? ⟨w.heap.size + 1, 4, none⟩ = some (.bool e2) := (blk_cell X3.out.b 4).trans rfl
      cases p : up l2 s1 t1 l1 u1 e1 <;> rw [p] at he <;> subst he <;> (have P3 := Lib.hid p; clear p)
      · go_wp2_with fail
        all_goals go_ret
        all_goals exact ⟨ret_bool (by first | (simp [meetB, P1.out, P2.out, P3.out]; done) | (simp [meetB, P1.out, P2.out, P3.out, *]; done) | (have P1x := P1.out; have P2x := P2.out; have P3x := P3.out; simp_all [meetB]; done) | skip), G3.out⟩
      · go_wp2_with fail
        all_goals go_ret
        all_goals exact ⟨ret_bool (by first | (simp [meetB, P1.out, P2.out, P3.out]; done) | (simp [meetB, P1.out, P2.out, P3.out, *]; done) | (have P1x := P1.out; have P2x := P2.out; have P3x := P3.out; simp_all [meetB]; done) | skip), G3.out⟩
set_option maxHeartbeats 1000000 in
theorem within_any {w0 : World} (s1 : Int) (t1 l1 u1 : ByteArray) (e1 : Bool) (s2 : Int) (t2 l2 u2 : ByteArray) (e2 : Bool) (w : World) (g : St w0 w) : Calls Tryd.prog 61 #[.agg #[.int .i64 s1, .string t1, .string l1, .string u1, .bool e1], .agg #[.int .i64 s2, .string t2, .string l2, .string u2, .bool e2]] w fun e' w' => e' = .returned (.bool (withB s1 t1 l1 u1 e1 s2 t2 l2 u2 e2)) ∧ St w0 w' := by
  have G := Lib.hid ((g.alloc (.cells #[.int .i64 s1, .string t1, .string l1, .string u1, .bool e1] 30)).alloc (.cells #[.int .i64 s2, .string t2, .string l2, .string u2, .bool e2] 30))
  have X := Lib.hid (Bx.start w #[.int .i64 s1, .string t1, .string l1, .string u1, .bool e1] #[.int .i64 s2, .string t2, .string l2, .string u2, .bool e2])
  clear g
  go_enter Tryd.func61, Tryd.ntmps61
  go_wp2_with fail
  refine (alike_any _ _ _ _ _ _ _ _ _ _ _ G.out.self).mono ?_
  rintro e w1 ⟨he, hb⟩
  have X1 := Lib.hid (X.out.step hb)
  have G1 := Lib.hid (G.out.to hb)
  clear hb
  have c10 : w1.cell? ⟨w.heap.size, 0, none⟩ = some (.int .i64 s1) := (blk_cell X1.out.a 0).trans rfl
  have c11 : w1.cell? ⟨w.heap.size, 1, none⟩ = some (.string t1) := (blk_cell X1.out.a 1).trans rfl
  have c12 : w1.cell? ⟨w.heap.size, 2, none⟩ = some (.string l1) := (blk_cell X1.out.a 2).trans rfl
  have c13 : w1.cell? ⟨w.heap.size, 3, none⟩ = some (.string u1) := (blk_cell X1.out.a 3).trans rfl
  have c14 : w1.cell? ⟨w.heap.size, 4, none⟩ = some (.bool e1) := (blk_cell X1.out.a 4).trans rfl
  have c20 : w1.cell? ⟨w.heap.size + 1, 0, none⟩ = some (.int .i64 s2) := (blk_cell X1.out.b 0).trans rfl
  have c21 : w1.cell? ⟨w.heap.size + 1, 1, none⟩ = some (.string t2) := (blk_cell X1.out.b 1).trans rfl
  have c22 : w1.cell? ⟨w.heap.size + 1, 2, none⟩ = some (.string l2) := (blk_cell X1.out.b 2).trans rfl
  have c23 : w1.cell? ⟨w.heap.size + 1, 3, none⟩ = some (.string u2) := (blk_cell X1.out.b 3).trans rfl
  have c24 : w1.cell? ⟨w.heap.size + 1, 4, none⟩ = some (.bool e2) := (blk_cell X1.out.b 4).trans rfl
  cases p : al s1 t1 l1 u1 e1 s2 t2 l2 u2 e2 <;> rw [p] at he <;> subst he <;> (have P1 := Lib.hid p; clear p)
  · go_wp2_with fail
    all_goals go_ret
    all_goals exact ⟨ret_bool (by first | (simp [withB, P1.out]; done) | (simp [withB, P1.out, *]; done) | (have P1x := P1.out; simp_all [withB]; done) | skip), G1.out⟩
  · cases q1 : Op.bytesLess l1.toList l2.toList <;> cases e2 <;> cases e1
    any_goals (go_wp2_with fail; go_ret; exact ⟨ret_bool (by simp [withB, P1.out, q1]), G1.out⟩)
    go_wp2_with fail
    clear c10 c11 c12 c13 c14 c20 c21 c22 c23 c24
    refine (upto_any _ _ _ _ _ _ _ G1.out.self).mono ?_
    rintro e w2 ⟨he, hb⟩
    have X2 := Lib.hid (X1.out.step hb)
    have G2 := Lib.hid (G1.out.to hb)
    clear hb
    have c10 : w2.cell? ⟨w.heap.size, 0, none⟩ = some (.int .i64 s1) := (blk_cell X2.out.a 0).trans rfl
    have c11 : w2.cell? ⟨w.heap.size, 1, none⟩ = some (.string t1) := (blk_cell X2.out.a 1).trans rfl
    have c12 : w2.cell? ⟨w.heap.size, 2, none⟩ = some (.string l1) := (blk_cell X2.out.a 2).trans rfl
    have c13 : w2.cell? ⟨w.heap.size, 3, none⟩ = some (.string u1) := (blk_cell X2.out.a 3).trans rfl
    have c14 : w2.cell? ⟨w.heap.size, 4, none⟩ = some (.bool false) := (blk_cell X2.out.a 4).trans rfl
    have c20 : w2.cell? ⟨w.heap.size + 1, 0, none⟩ = some (.int .i64 s2) := (blk_cell X2.out.b 0).trans rfl
    have c21 : w2.cell? ⟨w.heap.size + 1, 1, none⟩ = some (.string t2) := (blk_cell X2.out.b 1).trans rfl
    have c22 : w2.cell? ⟨w.heap.size + 1, 2, none⟩ = some (.string l2) := (blk_cell X2.out.b 2).trans rfl
    have c23 : w2.cell? ⟨w.heap.size + 1, 3, none⟩ = some (.string u2) := (blk_cell X2.out.b 3).trans rfl
    have c24 : w2.cell? ⟨w.heap.size + 1, 4, none⟩ = some (.bool false) := (blk_cell X2.out.b 4).trans rfl
    cases p : up u1 s2 t2 l2 u2 false <;> rw [p] at he <;> subst he <;> (have P2 := Lib.hid p; clear p)
    · go_wp2_with fail
      all_goals go_ret
      all_goals exact ⟨ret_bool (by first | (simp [withB, P1.out, P2.out, q1]; done) | (simp [withB, P1.out, P2.out, q1, *]; done) | (have P1x := P1.out; have P2x := P2.out; simp_all [withB]; done) | skip), G2.out⟩
    · go_wp2_with fail
      all_goals go_ret
      all_goals exact ⟨ret_bool (by first | (simp [withB, P1.out, P2.out, q1]; done) | (simp [withB, P1.out, P2.out, q1, *]; done) | (have P1x := P1.out; have P2x := P2.out; simp_all [withB]; done) | skip), G2.out⟩
theorem al_space {s1 : Int} {t1 l1 u1 : ByteArray} {e1 : Bool} {s2 : Int} {t2 l2 u2 : ByteArray} {e2 : Bool} (h0 : al s1 t1 l1 u1 e1 s2 t2 l2 u2 e2 = true) : s1 = s2 := by simp [al] at h0; exact h0.1.2
theorem pl_plain {s : Int} {t l u : ByteArray} {e : Bool} (h0 : pl s t l u e = true) (h1 : s < 2) : l.toList = [] ∧ u.toList = [] ∧ e = false := by
  by_cases h2 : s < 0
  · rw [pl_neg _ _ _ _ _ h2] at h0; cases h0
  · have : s = 0 ∨ s = 1 := by omega
    rcases this with rfl | rfl
    · rw [pl_0] at h0; simp at h0; exact ⟨h0.1.1.2, h0.1.2, h0.2⟩
    · rw [pl_1] at h0; simp at h0; exact ⟨h0.1.1.2, h0.1.2, h0.2⟩
theorem al_plain {s1 s2 : Int} {t1 l1 u1 t2 l2 u2 : ByteArray} {e1 e2 : Bool} (h0 : al s1 t1 l1 u1 e1 s2 t2 l2 u2 e2 = true) (h1 : s1 < 2) : l1.toList = [] ∧ l2.toList = [] ∧ u1.toList = [] ∧ u2.toList = [] ∧ e1 = false ∧ e2 = false := by
  have hs := al_space h0
  simp [al] at h0
  have a := pl_plain h0.1.1.1 h1
  have b := pl_plain h0.1.1.2 (by omega)
  exact ⟨a.1, b.1, a.2.1, b.2.1, a.2.2, b.2.2⟩
end Md
end Go.Proofs.YtogcjflneedcfaaDoor

namespace Go.Proofs.YtogcjflneedcfaaDoor
open Go.ChangeShapes Go.WideShapes Go.ChangeAt Go.RowKit
open Go.Joins Go.Deep
set_option linter.unusedVariables false
set_option linter.unusedSimpArgs false
namespace Md
section
variable {H : Type} {enc : TypeId × Value → H} {P : Program} {w : World} {base : Nat} {spare : Nat → Bool} {held : Bool}
theorem open_agg5 {r : Reach} {b0 : Nat} {t : TypeId} {f0 f1 f2 f3 f4 : Field} {v : Value} {d : DataW H} {p : List MemPlace} (hs : P.underlying t = some (.struct #[f0, f1, f2, f3, f4])) (hone : oneCellFields P #[f0, f1, f2, f3, f4] = true) (hC : P.cellsOf t = 5)
    (hv : Value.okWide P w r b0 t v) (h : DataW.Trod enc P w base spare held t v d p) :
    ∃ (v0 v1 v2 v3 v4 : Value) (y0 y1 y2 y3 y4 : DataW H × List MemPlace) (n : Nat), v = .agg #[v0, v1, v2, v3, v4] ∧ d = .agg [y0.1, y1.1, y2.1, y3.1, y4.1] ∧ p = y0.2 ++ (y1.2 ++ (y2.2 ++ (y3.2 ++ y4.2))) ∧
      DataW.trod enc P w base spare held n f0.type [v0] = some y0 ∧ DataW.trod enc P w base spare held n f1.type [v1] = some y1 ∧ DataW.trod enc P w base spare held n f2.type [v2] = some y2 ∧ DataW.trod enc P w base spare held n f3.type [v3] = some y3 ∧ DataW.trod enc P w base spare held n f4.type [v4] = some y4 := by
  obtain ⟨cs, rfl, hsz⟩ := okWide_struct hs hv
  obtain ⟨l⟩ := cs
  match l, hsz.trans hC with
  | [c0, c1, c2, c3, c4], _ =>
    obtain ⟨fuel, hf⟩ := h
    obtain ⟨xs, n, _, hx, _, hlen, hg⟩ := DataW.trod_struct hs hf
    obtain ⟨o0, k0⟩ := hone_of hone 0 f0 rfl
    obtain ⟨o1, k1⟩ := hone_of hone 1 f1 rfl
    obtain ⟨o2, k2⟩ := hone_of hone 2 f2 rfl
    obtain ⟨o3, k3⟩ := hone_of hone 3 f3 rfl
    obtain ⟨o4, k4⟩ := hone_of hone 4 f4 rfl
    match xs, hlen with
    | [y0, y1, y2, y3, y4], _ =>
      simp only [Prod.mk.injEq] at hx
      exact ⟨c0, c1, c2, c3, c4, y0, y1, y2, y3, y4, n, rfl, by simpa using hx.1, by simpa using hx.2, by simpa [Value.cells, o0, k0] using hg 0 f0 rfl, by simpa [Value.cells, o1, k1] using hg 1 f1 rfl, by simpa [Value.cells, o2, k2] using hg 2 f2 rfl, by simpa [Value.cells, o3, k3] using hg 3 f3 rfl, by simpa [Value.cells, o4, k4] using hg 4 f4 rfl⟩
/-- an array of bools -/
theorem cells_bools {fuel : Nat} {t e : TypeId} {n : Nat} {cs : List Value} {bs : List Bool} {p : List MemPlace} (ht : P.underlying t = some (.array n e)) (he : P.underlying e = some .bool) (hce : P.cellsOf e = 1)
    (h : DataW.trod enc P w base spare held fuel t cs = some (.agg (bs.map fun b => .lit (.bool b)), p)) (i : Nat) (hi : i < n) : cs[i]? = some (.bool (bs.getD i false)) := by
  obtain ⟨xs, m, rfl, hx, hl, hxl, hg⟩ := DataW.trod_array ht h
  have h1 := hg i hi
  rw [hce, Nat.mul_one] at h1
  have hi' : i < xs.length := by omega
  rw [List.getElem?_eq_getElem hi'] at h1
  obtain ⟨b, hb, hv⟩ := DataW.trod_bool he h1
  have h2 : xs.map (·.1) = bs.map fun b => (DataW.lit (.bool b) : DataW H) := by simpa using (congrArg Prod.fst hx).symm
  have h3 : (xs.map (·.1))[i]? = some (DataW.lit (.bool b)) := by simp [hi', hv]
  rw [h2] at h3
  simp only [List.getElem?_map, Option.map_eq_some_iff, DataW.lit.injEq, Lit.bool.injEq] at h3
  obtain ⟨b', hb', rfl⟩ := h3
  have h4 : cs[i]? = some (.bool b') := by
    have := congrArg (·[0]?) hb
    simpa [List.getElem?_take, List.getElem?_drop] using this
  rw [h4]; simp [List.getD, hb']
end
theorem gFits : Tryd.prog.globalNamed "stile/modes.fits" = some 1 := by kernel_rfl
theorem gCov : Tryd.prog.globalNamed "stile/modes.covers" = some 0 := by kernel_rfl
theorem tFits : (Tryd.prog.globals[1]?).map (·.type) = some 106 := by kernel_rfl
theorem tCov : (Tryd.prog.globals[0]?).map (·.type) = some 92 := by kernel_rfl
abbrev laid2 : List (String × DataW Unit) := [("stile/modes.fits", Rows.laid_stile_modes_fits), ("stile/modes.covers", Rows.laid_stile_modes_covers)]
def rowsB : List (List Bool) := [[true, true, true, true, true, true, true], [true, true, true, true, true, true, false], [true, true, true, false, false, false, false], [true, true, false, true, false, true, false], [true, true, false, false, false, false, false], [true, true, false, false, false, false, false], [true, false, false, false, false, false, false]]
theorem fits_datum : (Rows.laid_stile_modes_fits : DataW Unit) = .agg (rowsB.map fun r => .agg (r.map fun b => .lit (.bool b))) := rfl
theorem tail {P : Program} {x : String × DataW Unit} {r : List (String × DataW Unit)} {w : World} (h : laidMet P (x :: r) w) : laidMet P r w := by
  obtain ⟨ps, hv, hnd, hrows⟩ := h
  obtain ⟨n, d⟩ := x
  obtain ⟨g, t, cs, fuel, p, q, _, _, _, _, hq, rfl⟩ := hv
  exact ⟨q, hq, List.Nodup.sublist (List.sublist_append_right _ _) hnd, fun b off hm => hrows b off (List.mem_append_right _ hm)⟩
/-- WHAT THE ROWS' LIST GIVES: both tables' cells. -/
theorem gl_of {W : World} (h : laidMetH Tryd.prog laid2 W) : Gl W := by
  rw [MakeChecks.laidMetH_plain _ _ _ (by kernel_rfl)] at h
  have hc : Lib.TabIs Tryd.prog W "stile/modes.covers" .u64 covL := Lib.tabIs_of_head (rest := []) gCov tCov Tryd.underlying92 Tryd.underlying89 (by kernel_rfl) (by kernel_rfl) (tail h)
  obtain ⟨ps, ⟨g0, t0, cs0, f0, p0, q0, hg0, ht0, hv0, hd0, _, _⟩, _⟩ := h
  obtain rfl := Option.some.inj (gFits.symm.trans hg0)
  obtain rfl := Option.some.inj (tFits.symm.trans ht0)
  rw [fits_datum] at hd0
  obtain ⟨xs, m, rfl, hx, hl, hxl, hg⟩ := DataW.trod_array Tryd.underlying106 hd0
  have hxs : xs.map (·.1) = rowsB.map fun r => (.agg (r.map fun b => .lit (.bool b)) : DataW Unit) := by simpa using (congrArg Prod.fst hx).symm
  have hcov : ∀ i, i < 7 → W.cell? ⟨0, i, none⟩ = some (.int .u64 (covL.getD i 0)) := fun i hi => hc.cell gCov i hi
  have hfit : ∀ i, i < 49 → W.cell? ⟨1, i, none⟩ = some (.bool (fitsL.getD i false)) := by
    intro i hi
    rw [World.var?_cell hg0 hv0 i]
    have h7 : i / 7 < 7 := by omega
    have h1 := hg (i / 7) h7
    have c36 : Tryd.prog.cellsOf 105 = 7 := by kernel_rfl
    rw [c36] at h1
    have hi' : i / 7 < xs.length := by omega
    rw [List.getElem?_eq_getElem hi'] at h1
    have h3 : (xs.map (·.1))[i / 7]? = some (xs[i / 7]).1 := by simp [hi']
    rw [hxs] at h3
    have h5 : i / 7 < rowsB.length := by simpa [rowsB] using h7
    simp only [List.getElem?_map, List.getElem?_eq_getElem h5, Option.map_some, Option.some.injEq] at h3
    have h6 := h1.trans (congrArg some (show xs[i / 7] = ((.agg ((rowsB[i / 7]).map fun b => .lit (.bool b)) : DataW Unit), (xs[i / 7]).2) by rw [h3]))
    have h8 := cells_bools Tryd.underlying105 Tryd.underlying4 (by kernel_rfl) h6 (i % 7) (by omega)
    rw [List.getElem?_take, List.getElem?_drop, if_pos (by omega)] at h8
    have h9 : i / 7 * 7 + i % 7 = i := by omega
    rw [h9] at h8
    have h10 : (rowsB[i / 7]).getD (i % 7) false = fitsL.getD i false := by
      have all : ∀ k : Fin 49, ((rowsB.getD (k.val / 7) []).getD (k.val % 7) false) = fitsL.getD k.val false := by decide
      have := all ⟨i, hi⟩
      simpa [List.getD, List.getElem?_eq_getElem h5] using this
    rw [h10] at h8
    simpa using h8
  refine ⟨?_, hfit, hcov⟩
  have := World.block_lt_of_cell? W _ (hfit 0 (by omega))
  exact this
end Md
end Go.Proofs.YtogcjflneedcfaaDoor

namespace Go.Proofs.YtogcjflneedcfaaDoor
open Go.RowKit Md
set_option linter.unusedVariables false
set_option linter.unusedSimpArgs false
namespace Lk

/-- an object that is locked -/
structure Ob where
  s : Int
  t : ByteArray
  l : ByteArray
  u : ByteArray
  e : Bool
/-- a request -/
structure Rq where
  tx : Int
  o : Ob
  m : Int
  g : Bool
  s : Bool
def Ob.arr (o : Ob) : Array Value := #[.int .i64 o.s, .string o.t, .string o.l, .string o.u, .bool o.e]
def Rq.arr (r : Rq) : Array Value := #[.int .i64 r.tx, .int .i64 r.o.s, .string r.o.t, .string r.o.l, .string r.o.u, .bool r.o.e, .int .i64 r.m, .bool r.g, .bool r.s]
def ptr (p : Nat) : Value := .pointer (some ⟨p, 0, none⟩)
theorem new_at (w : World) (o : Obj) : (w.alloc o).heap[w.heap.size]? = some o := by show (w.heap.push _)[_]? = _; simp
/-- a request lies at a block -/
def IsRq (w : World) (p : Nat) (r : Rq) : Prop := w.heap[p]? = some (.cells r.arr 33 (0, 0))
theorem IsRq.cells {w : World} {p : Nat} {r : Rq} (h : IsRq w p r) : w.cell? ⟨p, 0, none⟩ = some (.int .i64 r.tx) ∧ w.cell? ⟨p, 1, none⟩ = some (.int .i64 r.o.s) ∧ w.cell? ⟨p, 2, none⟩ = some (.string r.o.t) ∧ w.cell? ⟨p, 3, none⟩ = some (.string r.o.l) ∧ w.cell? ⟨p, 4, none⟩ = some (.string r.o.u) ∧ w.cell? ⟨p, 5, none⟩ = some (.bool r.o.e) ∧ w.cell? ⟨p, 6, none⟩ = some (.int .i64 r.m) ∧ w.cell? ⟨p, 7, none⟩ = some (.bool r.g) ∧ w.cell? ⟨p, 8, none⟩ = some (.bool r.s) :=
  ⟨(blk_cell h 0).trans rfl, (blk_cell h 1).trans rfl, (blk_cell h 2).trans rfl, (blk_cell h 3).trans rfl, (blk_cell h 4).trans rfl, (blk_cell h 5).trans rfl, (blk_cell h 6).trans rfl, (blk_cell h 7).trans rfl, (blk_cell h 8).trans rfl⟩
theorem IsRq.lt {w : World} {p : Nat} {r : Rq} (h : IsRq w p r) : p < w.heap.size := (Array.getElem?_eq_some_iff.1 h).1
theorem IsRq.below {w w' : World} {p : Nat} {r : Rq} (h : IsRq w p r) (hb : Below w.heap.size w w') : IsRq w' p r := (hb.block p h.lt).trans h
/-- the blocks of a table -/
def Foot (D : Nat) (v : Value) (ps : List Nat) (b : Nat) : Prop := b = D ∨ b ∈ ps ∨ v.ownBlock = some b
/-- a table lies at D, its requests at the blocks ps -/
structure TabAt (w : World) (D : Nat) (v : Value) (ps : List Nat) (T : List Rq) (most : Int) : Prop where
  d : w.heap[D]? = some (.cells #[.int .i64 most, v] 65 (0, 0))
  row : w.ownsRow 0 66 1 v T.length (ps.map ptr)
  len : ps.length = T.length
  rq : ∀ (i p : Nat) (r : Rq), ps[i]? = some p → T[i]? = some r → IsRq w p r
  nd : ps.Nodup
  lo : ∀ b, Foot D v ps b → 2 ≤ b
theorem below_row {w w' : World} {base : Nat} {e : TypeId} {size : Nat} {v : Value} {n : Nat} {xs : List Value} (h : w.ownsRow base e size v n xs) (hb : Below w.heap.size w w') : w'.ownsRow base e size v n xs := by
  refine ⟨h.1, ?_⟩
  rcases h.2 with q | ⟨g, cap, cur, q1, q2, q3, q4⟩
  · exact .inl q
  · exact .inr ⟨g, cap, cur, q1, q2, (hb.block g (Array.getElem?_eq_some_iff.1 q3).1).trans q3, q4⟩
theorem TabAt.below {w w' : World} {D : Nat} {v : Value} {ps : List Nat} {T : List Rq} {most : Int} (h : TabAt w D v ps T most) (hb : Below w.heap.size w w') : TabAt w' D v ps T most :=
  ⟨(hb.block D (Array.getElem?_eq_some_iff.1 h.d).1).trans h.d, below_row h.row hb, h.len, fun i p r hp hr => (h.rq i p r hp hr).below hb, h.nd, h.lo⟩
/-- does g keep r from being granted, one of them granted? -/
def clash (g r : Rq) : Bool := g.tx != r.tx && meetB g.o.s g.o.t g.o.l g.o.u g.o.e r.o.s r.o.t r.o.l r.o.u r.o.e && !fitsB g.m r.m
def holds (g : Rq) (tx : Int) (o : Ob) (m : Int) : Bool := g.g && g.tx == tx && withB o.s o.t o.l o.u o.e g.o.s g.o.t g.o.l g.o.u g.o.e && covB g.m m
end Lk
end Go.Proofs.YtogcjflneedcfaaDoor

namespace Go.Proofs.YtogcjflneedcfaaDoor
open Go.RowKit Md
set_option linter.unusedVariables false
set_option linter.unusedSimpArgs false
namespace Lk

theorem end1_any (p B : Nat) (r : Rq) (tx : Int) (w : World) (h : IsRq w p r) (hB : w.cell? ⟨B, 0, none⟩ = some (.int .i64 tx)) : Calls Tryd.prog 42 #[ptr p, ptr B] w fun e w' => e = .returned (.bool (r.tx == tx)) ∧ ∃ n, w' = w.drewN n := by
  unfold ptr
  obtain ⟨c0, c1, c2, c3, c4, c5, c6, c7, c8⟩ := h.cells
  clear h
  go_enter Tryd.func42, Tryd.ntmps42
  go_wp2
  go_quiet (fail)
  go_wp2
  go_ret
  exact ⟨rfl, _, rfl⟩
theorem waits1_any (p B : Nat) (r : Rq) (tx : Int) (w : World) (h : IsRq w p r) (hB : w.cell? ⟨B, 0, none⟩ = some (.int .i64 tx)) : Calls Tryd.prog 44 #[ptr p, ptr B] w fun e w' => e = .returned (.bool (r.tx == tx && !r.g)) ∧ ∃ n, w' = w.drewN n := by
  unfold ptr
  obtain ⟨c0, c1, c2, c3, c4, c5, c6, c7, c8⟩ := h.cells
  clear h
  by_cases h1 : r.tx = tx
  · have h2 : decide (r.tx = tx) = true := decide_eq_true h1
    have h3 : (r.tx == tx) = true := by simpa using h1
    rw [h3]
    go_enter Tryd.func44, Tryd.ntmps44
    go_wp2
    go_quiet (fail)
    go_wp2
    go_ret
    exact ⟨by simp, _, rfl⟩
  · have h2 : decide (r.tx = tx) = false := decide_eq_false h1
    have h3 : (r.tx == tx) = false := by simpa using h1
    rw [h3]
    go_enter Tryd.func44, Tryd.ntmps44
    go_wp2
    go_quiet (fail)
    go_wp2
    go_ret
    exact ⟨by simp, _, rfl⟩
theorem endshort1_any (p B : Nat) (r : Rq) (tx : Int) (w : World) (h : IsRq w p r) (hB : w.cell? ⟨B, 0, none⟩ = some (.int .i64 tx)) : Calls Tryd.prog 38 #[ptr p, ptr B] w fun e w' => e = .returned (.bool (r.tx == tx && r.g && r.s)) ∧ ∃ n, w' = w.drewN n := by
  unfold ptr
  obtain ⟨c0, c1, c2, c3, c4, c5, c6, c7, c8⟩ := h.cells
  clear h
  by_cases h1 : r.tx = tx
  · have h2 : decide (r.tx = tx) = true := decide_eq_true h1
    have h3 : (r.tx == tx) = true := by simpa using h1
    rw [h3]
    cases hg : r.g
    all_goals rw [hg] at c7
    all_goals go_enter Tryd.func38, Tryd.ntmps38
    all_goals go_wp2
    all_goals go_quiet (fail)
    all_goals go_wp2
    all_goals go_ret
    all_goals exact ⟨by simp, _, rfl⟩
  · have h2 : decide (r.tx = tx) = false := decide_eq_false h1
    have h3 : (r.tx == tx) = false := by simpa using h1
    rw [h3]
    go_enter Tryd.func38, Tryd.ntmps38
    go_wp2
    go_quiet (fail)
    go_wp2
    go_ret
    exact ⟨by simp, _, rfl⟩
end Lk
end Go.Proofs.YtogcjflneedcfaaDoor

namespace Go.Proofs.YtogcjflneedcfaaDoor
open Go.RowKit Md
set_option linter.unusedVariables false
set_option linter.unusedSimpArgs false
namespace Lk

theorem meet_b (a b : Ob) (x : Bool) (h : meetB a.s a.t a.l a.u a.e b.s b.t b.l b.u b.e = x) (w : World) (g : Gl w) : Calls Tryd.prog 75 #[.agg #[.int .i64 a.s, .string a.t, .string a.l, .string a.u, .bool a.e], .agg #[.int .i64 b.s, .string b.t, .string b.l, .string b.u, .bool b.e]] w fun e w' => e = .returned (.bool x) ∧ St w w' := h ▸ meet_any _ _ _ _ _ _ _ _ _ _ w (St.refl g)
theorem within_b (a b : Ob) (x : Bool) (h : withB a.s a.t a.l a.u a.e b.s b.t b.l b.u b.e = x) (w : World) (g : Gl w) : Calls Tryd.prog 61 #[.agg #[.int .i64 a.s, .string a.t, .string a.l, .string a.u, .bool a.e], .agg #[.int .i64 b.s, .string b.t, .string b.l, .string b.u, .bool b.e]] w fun e w' => e = .returned (.bool x) ∧ St w w' := h ▸ within_any _ _ _ _ _ _ _ _ _ _ w (St.refl g)
theorem held_to {w v v' : World} {p q : Nat} {g r : Rq} (k : St v v') (h : St w v ∧ v.cell? ⟨p, 0, none⟩ = some (.int .i64 g.tx) ∧ v.cell? ⟨p, 1, none⟩ = some (.int .i64 g.o.s) ∧ v.cell? ⟨p, 2, none⟩ = some (.string g.o.t) ∧ v.cell? ⟨p, 3, none⟩ = some (.string g.o.l) ∧ v.cell? ⟨p, 4, none⟩ = some (.string g.o.u) ∧ v.cell? ⟨p, 5, none⟩ = some (.bool g.o.e) ∧ v.cell? ⟨p, 6, none⟩ = some (.int .i64 g.m) ∧ v.cell? ⟨q, 0, none⟩ = some (.int .i64 r.tx) ∧ v.cell? ⟨q, 1, none⟩ = some (.int .i64 r.o.s) ∧ v.cell? ⟨q, 2, none⟩ = some (.string r.o.t) ∧ v.cell? ⟨q, 3, none⟩ = some (.string r.o.l) ∧ v.cell? ⟨q, 4, none⟩ = some (.string r.o.u) ∧ v.cell? ⟨q, 5, none⟩ = some (.bool r.o.e) ∧ v.cell? ⟨q, 6, none⟩ = some (.int .i64 r.m)) : St w v' ∧ v'.cell? ⟨p, 0, none⟩ = some (.int .i64 g.tx) ∧ v'.cell? ⟨p, 1, none⟩ = some (.int .i64 g.o.s) ∧ v'.cell? ⟨p, 2, none⟩ = some (.string g.o.t) ∧ v'.cell? ⟨p, 3, none⟩ = some (.string g.o.l) ∧ v'.cell? ⟨p, 4, none⟩ = some (.string g.o.u) ∧ v'.cell? ⟨p, 5, none⟩ = some (.bool g.o.e) ∧ v'.cell? ⟨p, 6, none⟩ = some (.int .i64 g.m) ∧ v'.cell? ⟨q, 0, none⟩ = some (.int .i64 r.tx) ∧ v'.cell? ⟨q, 1, none⟩ = some (.int .i64 r.o.s) ∧ v'.cell? ⟨q, 2, none⟩ = some (.string r.o.t) ∧ v'.cell? ⟨q, 3, none⟩ = some (.string r.o.l) ∧ v'.cell? ⟨q, 4, none⟩ = some (.string r.o.u) ∧ v'.cell? ⟨q, 5, none⟩ = some (.bool r.o.e) ∧ v'.cell? ⟨q, 6, none⟩ = some (.int .i64 r.m) := by
  obtain ⟨ss, a0, a1, a2, a3, a4, a5, a6, b0, b1, b2, b3, b4, b5, b6⟩ := h
  exact ⟨ss.to k, (k.b.cell (World.block_lt_of_cell? v _ a0)).trans a0, (k.b.cell (World.block_lt_of_cell? v _ a1)).trans a1, (k.b.cell (World.block_lt_of_cell? v _ a2)).trans a2, (k.b.cell (World.block_lt_of_cell? v _ a3)).trans a3, (k.b.cell (World.block_lt_of_cell? v _ a4)).trans a4, (k.b.cell (World.block_lt_of_cell? v _ a5)).trans a5, (k.b.cell (World.block_lt_of_cell? v _ a6)).trans a6, (k.b.cell (World.block_lt_of_cell? v _ b0)).trans b0, (k.b.cell (World.block_lt_of_cell? v _ b1)).trans b1, (k.b.cell (World.block_lt_of_cell? v _ b2)).trans b2, (k.b.cell (World.block_lt_of_cell? v _ b3)).trans b3, (k.b.cell (World.block_lt_of_cell? v _ b4)).trans b4, (k.b.cell (World.block_lt_of_cell? v _ b5)).trans b5, (k.b.cell (World.block_lt_of_cell? v _ b6)).trans b6⟩
set_option maxHeartbeats 4000000 in
set_option maxRecDepth 100000 in
theorem clash_any (p q : Nat) (g r : Rq) (w : World) (gl : Gl w) (hp : IsRq w p g) (hq : IsRq w q r) : Calls Tryd.prog 64 #[ptr p, ptr q] w fun e w' => e = .returned (.bool (clash g r)) ∧ St w w' := by
  obtain ⟨c0, c1, c2, c3, c4, c5, c6, c7, c8⟩ := hp.cells
  obtain ⟨d0, d1, d2, d3, d4, d5, d6, d7, d8⟩ := hq.cells
  clear hp hq c7 c8 d7 d8
  unfold ptr clash
  by_cases h1 : g.tx = r.tx
  · have h2 : (g.tx != r.tx) = false := by simpa using h1
    rw [h2, Bool.false_and, Bool.false_and]
    go_enter Tryd.func64, Tryd.ntmps64
    go_wp2
    refine Go.Proofs.YtogcjflneedcfaaDoorW.PrintLast.start_ (n := 33) (S := fun v => St w v ∧ v.cell? ⟨p, 0, none⟩ = some (.int .i64 g.tx) ∧ v.cell? ⟨p, 1, none⟩ = some (.int .i64 g.o.s) ∧ v.cell? ⟨p, 2, none⟩ = some (.string g.o.t) ∧ v.cell? ⟨p, 3, none⟩ = some (.string g.o.l) ∧ v.cell? ⟨p, 4, none⟩ = some (.string g.o.u) ∧ v.cell? ⟨p, 5, none⟩ = some (.bool g.o.e) ∧ v.cell? ⟨p, 6, none⟩ = some (.int .i64 g.m) ∧ v.cell? ⟨q, 0, none⟩ = some (.int .i64 r.tx) ∧ v.cell? ⟨q, 1, none⟩ = some (.int .i64 r.o.s) ∧ v.cell? ⟨q, 2, none⟩ = some (.string r.o.t) ∧ v.cell? ⟨q, 3, none⟩ = some (.string r.o.l) ∧ v.cell? ⟨q, 4, none⟩ = some (.string r.o.u) ∧ v.cell? ⟨q, 5, none⟩ = some (.bool r.o.e) ∧ v.cell? ⟨q, 6, none⟩ = some (.int .i64 r.m)) (ds := [32]) #[false, false, false, false, false, false, false, false, false, false, false, false, false, false, false, false, false, false, false, false, false, false, false, false, false, false, false, false, false, false, false, false, false] (by kernel_rfl) rfl rfl ⟨(St.refl gl).drew, c0, c1, c2, c3, c4, c5, c6, d0, d1, d2, d3, d4, d5, d6⟩ (fun hHeld => ?_)
    refine Go.Proofs.YtogcjflneedcfaaDoorW.PrintLast.pure_ (i := 0) (N := some 5) (v := ?_) (a' := ?_) #[true, false, false, false, false, false, false, false, false, false, false, false, false, false, false, false, false, false, false, false, false, false, false, false, false, false, false, false, false, false, false, false, false] rfl rfl (by kernel_rfl) (fun _ _ _ h => h) (Or.inl ⟨by rfl, ?_⟩) ?_ ?_
    rotate_left
    · intro w'
      go_simp
      with_reducible rfl
    rotate_left
    · simp only [Act.put, List.setIfInBounds_toArray, List.set_cons_zero, List.set_cons_succ, Go.Proofs.YtogcjflneedcfaaDoorW.PrintLast.i64_w, Go.Proofs.YtogcjflneedcfaaDoorW.PrintLast.i32_w]
      rfl
    refine Go.Proofs.YtogcjflneedcfaaDoorW.PrintLast.pure_ (i := 1) (N := some 6) (v := ?_) (a' := ?_) #[true, true, false, false, false, false, false, false, false, false, false, false, false, false, false, false, false, false, false, false, false, false, false, false, false, false, false, false, false, false, false, false, false] rfl rfl (by kernel_rfl) (fun _ _ _ h => h) (Or.inl ⟨by rfl, ?_⟩) ?_ ?_
    rotate_left
    · intro w'
      go_simp
      with_reducible rfl
    rotate_left
    · simp only [Act.put, List.setIfInBounds_toArray, List.set_cons_zero, List.set_cons_succ, Go.Proofs.YtogcjflneedcfaaDoorW.PrintLast.i64_w, Go.Proofs.YtogcjflneedcfaaDoorW.PrintLast.i32_w]
      rfl
    refine Go.Proofs.YtogcjflneedcfaaDoorW.PrintLast.pure_ (i := 2) (N := some 7) (v := ?_) (a' := ?_) #[true, true, true, false, false, false, false, false, false, false, false, false, false, false, false, false, false, false, false, false, false, false, false, false, false, false, false, false, false, false, false, false, false] rfl rfl (by kernel_rfl) (fun _ _ _ h => h) (Or.inl ⟨by rfl, ?_⟩) ?_ ?_
    rotate_left
    · intro w'
      go_simp
      with_reducible rfl
    rotate_left
    · simp only [Act.put, List.setIfInBounds_toArray, List.set_cons_zero, List.set_cons_succ, Go.Proofs.YtogcjflneedcfaaDoorW.PrintLast.i64_w, Go.Proofs.YtogcjflneedcfaaDoorW.PrintLast.i32_w]
      rfl
    refine Go.Proofs.YtogcjflneedcfaaDoorW.PrintLast.take_ (i := 3) (N := some 8) (v := ?_) (a' := ?_) #[true, true, true, true, false, false, false, false, false, false, false, false, false, false, false, false, false, false, false, false, false, false, false, false, false, false, false, false, false, false, false, false, false] rfl rfl (by kernel_rfl) (fun _ _ _ h => h) (Or.inl ⟨by rfl, ?_⟩) hHeld ?_ ?_
    rotate_left
    · rintro w' ⟨ss, a0, a1, a2, a3, a4, a5, a6, b0, b1, b2, b3, b4, b5, b6⟩
      go_simp
      with_reducible rfl
    rotate_left
    · simp only [Act.put, List.setIfInBounds_toArray, List.set_cons_zero, List.set_cons_succ, Go.Proofs.YtogcjflneedcfaaDoorW.PrintLast.i64_w, Go.Proofs.YtogcjflneedcfaaDoorW.PrintLast.i32_w]
      rfl
    refine Go.Proofs.YtogcjflneedcfaaDoorW.PrintLast.pure_ (i := 4) (N := some 9) (v := ?_) (a' := ?_) #[true, true, true, true, true, false, false, false, false, false, false, false, false, false, false, false, false, false, false, false, false, false, false, false, false, false, false, false, false, false, false, false, false] rfl rfl (by kernel_rfl) (fun _ _ _ h => h) (Or.inl ⟨by rfl, ?_⟩) ?_ ?_
    rotate_left
    · intro w'
      go_simp
      with_reducible rfl
    rotate_left
    · simp only [Act.put, List.setIfInBounds_toArray, List.set_cons_zero, List.set_cons_succ, Go.Proofs.YtogcjflneedcfaaDoorW.PrintLast.i64_w, Go.Proofs.YtogcjflneedcfaaDoorW.PrintLast.i32_w]
      rfl
    refine Go.Proofs.YtogcjflneedcfaaDoorW.PrintLast.pure_ (i := 5) (N := some 10) (v := ?_) (a' := ?_) #[true, true, true, true, true, true, false, false, false, false, false, false, false, false, false, false, false, false, false, false, false, false, false, false, false, false, false, false, false, false, false, false, false] rfl rfl (by kernel_rfl) (fun _ _ _ h => h) (Or.inl ⟨by rfl, ?_⟩) ?_ ?_
    rotate_left
    · intro w'
      go_simp
      with_reducible rfl
    rotate_left
    · simp only [Act.put, List.setIfInBounds_toArray, List.set_cons_zero, List.set_cons_succ, Go.Proofs.YtogcjflneedcfaaDoorW.PrintLast.i64_w, Go.Proofs.YtogcjflneedcfaaDoorW.PrintLast.i32_w]
      rfl
    refine Go.Proofs.YtogcjflneedcfaaDoorW.PrintLast.pure_ (i := 6) (N := some 11) (v := ?_) (a' := ?_) #[true, true, true, true, true, true, true, false, false, false, false, false, false, false, false, false, false, false, false, false, false, false, false, false, false, false, false, false, false, false, false, false, false] rfl rfl (by kernel_rfl) (fun _ _ _ h => h) (Or.inl ⟨by rfl, ?_⟩) ?_ ?_
    rotate_left
    · intro w'
      go_simp
      with_reducible rfl
    rotate_left
    · simp only [Act.put, List.setIfInBounds_toArray, List.set_cons_zero, List.set_cons_succ, Go.Proofs.YtogcjflneedcfaaDoorW.PrintLast.i64_w, Go.Proofs.YtogcjflneedcfaaDoorW.PrintLast.i32_w]
      rfl
    refine Go.Proofs.YtogcjflneedcfaaDoorW.PrintLast.take_ (i := 7) (N := some 12) (v := ?_) (a' := ?_) #[true, true, true, true, true, true, true, true, false, false, false, false, false, false, false, false, false, false, false, false, false, false, false, false, false, false, false, false, false, false, false, false, false] rfl rfl (by kernel_rfl) (fun _ _ _ h => h) (Or.inl ⟨by rfl, ?_⟩) hHeld ?_ ?_
    rotate_left
    · rintro w' ⟨ss, a0, a1, a2, a3, a4, a5, a6, b0, b1, b2, b3, b4, b5, b6⟩
      go_simp
      with_reducible rfl
    rotate_left
    · simp only [Act.put, List.setIfInBounds_toArray, List.set_cons_zero, List.set_cons_succ, Go.Proofs.YtogcjflneedcfaaDoorW.PrintLast.i64_w, Go.Proofs.YtogcjflneedcfaaDoorW.PrintLast.i32_w]
      rfl
    refine Go.Proofs.YtogcjflneedcfaaDoorW.PrintLast.pure_ (i := 8) (N := some 13) (v := ?_) (a' := ?_) #[true, true, true, true, true, true, true, true, true, false, false, false, false, false, false, false, false, false, false, false, false, false, false, false, false, false, false, false, false, false, false, false, false] rfl rfl (by kernel_rfl) (fun _ _ _ h => h) (Or.inl ⟨by rfl, ?_⟩) ?_ ?_
    rotate_left
    · intro w'
      go_simp
      with_reducible rfl
    rotate_left
    · simp only [Act.put, List.setIfInBounds_toArray, List.set_cons_zero, List.set_cons_succ, Go.Proofs.YtogcjflneedcfaaDoorW.PrintLast.i64_w, Go.Proofs.YtogcjflneedcfaaDoorW.PrintLast.i32_w]
      rfl
    refine Go.Proofs.YtogcjflneedcfaaDoorW.PrintLast.pure_ (i := 9) (N := some 14) (v := ?_) (a' := ?_) #[true, true, true, true, true, true, true, true, true, true, false, false, false, false, false, false, false, false, false, false, false, false, false, false, false, false, false, false, false, false, false, false, false] rfl rfl (by kernel_rfl) (fun _ _ _ h => h) (Or.inl ⟨by rfl, ?_⟩) ?_ ?_
    rotate_left
    · intro w'
      go_simp
      with_reducible rfl
    rotate_left
    · simp only [Act.put, List.setIfInBounds_toArray, List.set_cons_zero, List.set_cons_succ, Go.Proofs.YtogcjflneedcfaaDoorW.PrintLast.i64_w, Go.Proofs.YtogcjflneedcfaaDoorW.PrintLast.i32_w]
      rfl
    refine Go.Proofs.YtogcjflneedcfaaDoorW.PrintLast.pure_ (i := 10) (N := some 15) (v := _) (a' := ?_) #[true, true, true, true, true, true, true, true, true, true, true, false, false, false, false, false, false, false, false, false, false, false, false, false, false, false, false, false, false, false, false, false, false] rfl rfl (by kernel_rfl) (fun _ _ _ h => h) (Or.inr ⟨by rfl, rfl⟩) ?_ ?_
    rotate_left
    · simp only [Act.put, List.setIfInBounds_toArray, List.set_cons_zero, List.set_cons_succ, Go.Proofs.YtogcjflneedcfaaDoorW.PrintLast.i64_w, Go.Proofs.YtogcjflneedcfaaDoorW.PrintLast.i32_w]
      rfl
    refine Go.Proofs.YtogcjflneedcfaaDoorW.PrintLast.pure_ (i := 11) (N := some 16) (v := _) (a' := ?_) #[true, true, true, true, true, true, true, true, true, true, true, true, false, false, false, false, false, false, false, false, false, false, false, false, false, false, false, false, false, false, false, false, false] rfl rfl (by kernel_rfl) (fun _ _ _ h => h) (Or.inr ⟨by rfl, rfl⟩) ?_ ?_
    rotate_left
    · simp only [Act.put, List.setIfInBounds_toArray, List.set_cons_zero, List.set_cons_succ, Go.Proofs.YtogcjflneedcfaaDoorW.PrintLast.i64_w, Go.Proofs.YtogcjflneedcfaaDoorW.PrintLast.i32_w]
      rfl
    refine Go.Proofs.YtogcjflneedcfaaDoorW.PrintLast.pure_ (i := 12) (N := some 17) (v := _) (a' := ?_) #[true, true, true, true, true, true, true, true, true, true, true, true, true, false, false, false, false, false, false, false, false, false, false, false, false, false, false, false, false, false, false, false, false] rfl rfl (by kernel_rfl) (fun _ _ _ h => h) (Or.inr ⟨by rfl, rfl⟩) ?_ ?_
    rotate_left
    · simp only [Act.put, List.setIfInBounds_toArray, List.set_cons_zero, List.set_cons_succ, Go.Proofs.YtogcjflneedcfaaDoorW.PrintLast.i64_w, Go.Proofs.YtogcjflneedcfaaDoorW.PrintLast.i32_w]
      rfl
    refine Go.Proofs.YtogcjflneedcfaaDoorW.PrintLast.pure_ (i := 13) (N := some 18) (v := _) (a' := ?_) #[true, true, true, true, true, true, true, true, true, true, true, true, true, true, false, false, false, false, false, false, false, false, false, false, false, false, false, false, false, false, false, false, false] rfl rfl (by kernel_rfl) (fun _ _ _ h => h) (Or.inr ⟨by rfl, rfl⟩) ?_ ?_
    rotate_left
    · simp only [Act.put, List.setIfInBounds_toArray, List.set_cons_zero, List.set_cons_succ, Go.Proofs.YtogcjflneedcfaaDoorW.PrintLast.i64_w, Go.Proofs.YtogcjflneedcfaaDoorW.PrintLast.i32_w]
      rfl
    refine Go.Proofs.YtogcjflneedcfaaDoorW.PrintLast.pure_ (i := 14) (N := some 19) (v := _) (a' := ?_) #[true, true, true, true, true, true, true, true, true, true, true, true, true, true, true, false, false, false, false, false, false, false, false, false, false, false, false, false, false, false, false, false, false] rfl rfl (by kernel_rfl) (fun _ _ _ h => h) (Or.inr ⟨by rfl, rfl⟩) ?_ ?_
    rotate_left
    · simp only [Act.put, List.setIfInBounds_toArray, List.set_cons_zero, List.set_cons_succ, Go.Proofs.YtogcjflneedcfaaDoorW.PrintLast.i64_w, Go.Proofs.YtogcjflneedcfaaDoorW.PrintLast.i32_w]
      rfl
    refine Go.Proofs.YtogcjflneedcfaaDoorW.PrintLast.pure_ (i := 15) (N := some 20) (v := _) (a' := ?_) #[true, true, true, true, true, true, true, true, true, true, true, true, true, true, true, true, false, false, false, false, false, false, false, false, false, false, false, false, false, false, false, false, false] rfl rfl (by kernel_rfl) (fun _ _ _ h => h) (Or.inr ⟨by rfl, rfl⟩) ?_ ?_
    rotate_left
    · simp only [Act.put, List.setIfInBounds_toArray, List.set_cons_zero, List.set_cons_succ, Go.Proofs.YtogcjflneedcfaaDoorW.PrintLast.i64_w, Go.Proofs.YtogcjflneedcfaaDoorW.PrintLast.i32_w]
      rfl
    refine Go.Proofs.YtogcjflneedcfaaDoorW.PrintLast.pure_ (i := 16) (N := some 21) (v := _) (a' := ?_) #[true, true, true, true, true, true, true, true, true, true, true, true, true, true, true, true, true, false, false, false, false, false, false, false, false, false, false, false, false, false, false, false, false] rfl rfl (by kernel_rfl) (fun _ _ _ h => h) (Or.inr ⟨by rfl, rfl⟩) ?_ ?_
    rotate_left
    · simp only [Act.put, List.setIfInBounds_toArray, List.set_cons_zero, List.set_cons_succ, Go.Proofs.YtogcjflneedcfaaDoorW.PrintLast.i64_w, Go.Proofs.YtogcjflneedcfaaDoorW.PrintLast.i32_w]
      rfl
    refine Go.Proofs.YtogcjflneedcfaaDoorW.PrintLast.pure_ (i := 17) (N := some 22) (v := _) (a' := ?_) #[true, true, true, true, true, true, true, true, true, true, true, true, true, true, true, true, true, true, false, false, false, false, false, false, false, false, false, false, false, false, false, false, false] rfl rfl (by kernel_rfl) (fun _ _ _ h => h) (Or.inr ⟨by rfl, rfl⟩) ?_ ?_
    rotate_left
    · simp only [Act.put, List.setIfInBounds_toArray, List.set_cons_zero, List.set_cons_succ, Go.Proofs.YtogcjflneedcfaaDoorW.PrintLast.i64_w, Go.Proofs.YtogcjflneedcfaaDoorW.PrintLast.i32_w]
      rfl
    refine Go.Proofs.YtogcjflneedcfaaDoorW.PrintLast.pure_ (i := 18) (N := some 23) (v := _) (a' := ?_) #[true, true, true, true, true, true, true, true, true, true, true, true, true, true, true, true, true, true, true, false, false, false, false, false, false, false, false, false, false, false, false, false, false] rfl rfl (by kernel_rfl) (fun _ _ _ h => h) (Or.inr ⟨by rfl, rfl⟩) ?_ ?_
    rotate_left
    · simp only [Act.put, List.setIfInBounds_toArray, List.set_cons_zero, List.set_cons_succ, Go.Proofs.YtogcjflneedcfaaDoorW.PrintLast.i64_w, Go.Proofs.YtogcjflneedcfaaDoorW.PrintLast.i32_w]
      rfl
    refine Go.Proofs.YtogcjflneedcfaaDoorW.PrintLast.pure_ (i := 19) (N := some 24) (v := ?_) (a' := ?_) #[true, true, true, true, true, true, true, true, true, true, true, true, true, true, true, true, true, true, true, true, false, false, false, false, false, false, false, false, false, false, false, false, false] rfl rfl (by kernel_rfl) (fun _ _ _ h => h) (Or.inl ⟨by rfl, ?_⟩) ?_ ?_
    rotate_left
    · intro w'
      go_simp
      with_reducible rfl
    rotate_left
    · simp only [Act.put, List.setIfInBounds_toArray, List.set_cons_zero, List.set_cons_succ, Go.Proofs.YtogcjflneedcfaaDoorW.PrintLast.i64_w, Go.Proofs.YtogcjflneedcfaaDoorW.PrintLast.i32_w]
      rfl
    refine Go.Proofs.YtogcjflneedcfaaDoorW.PrintLast.pure_ (i := 20) (N := some 25) (v := ?_) (a' := ?_) #[true, true, true, true, true, true, true, true, true, true, true, true, true, true, true, true, true, true, true, true, true, false, false, false, false, false, false, false, false, false, false, false, false] rfl rfl (by kernel_rfl) (fun _ _ _ h => h) (Or.inl ⟨by rfl, ?_⟩) ?_ ?_
    rotate_left
    · intro w'
      go_simp
      with_reducible rfl
    rotate_left
    · simp only [Act.put, List.setIfInBounds_toArray, List.set_cons_zero, List.set_cons_succ, Go.Proofs.YtogcjflneedcfaaDoorW.PrintLast.i64_w, Go.Proofs.YtogcjflneedcfaaDoorW.PrintLast.i32_w]
      rfl
    refine Go.Proofs.YtogcjflneedcfaaDoorW.PrintLast.pure_ (i := 21) (N := some 26) (v := _) (a' := ?_) #[true, true, true, true, true, true, true, true, true, true, true, true, true, true, true, true, true, true, true, true, true, true, false, false, false, false, false, false, false, false, false, false, false] rfl rfl (by kernel_rfl) (fun _ _ _ h => h) (Or.inr ⟨by rfl, rfl⟩) ?_ ?_
    rotate_left
    · simp only [Act.put, List.setIfInBounds_toArray, List.set_cons_zero, List.set_cons_succ, Go.Proofs.YtogcjflneedcfaaDoorW.PrintLast.i64_w, Go.Proofs.YtogcjflneedcfaaDoorW.PrintLast.i32_w]
      rfl
    refine Go.Proofs.YtogcjflneedcfaaDoorW.PrintLast.pure_ (i := 22) (N := some 27) (v := _) (a' := ?_) #[true, true, true, true, true, true, true, true, true, true, true, true, true, true, true, true, true, true, true, true, true, true, true, false, false, false, false, false, false, false, false, false, false] rfl rfl (by kernel_rfl) (fun _ _ _ h => h) (Or.inr ⟨by rfl, rfl⟩) ?_ ?_
    rotate_left
    · simp only [Act.put, List.setIfInBounds_toArray, List.set_cons_zero, List.set_cons_succ, Go.Proofs.YtogcjflneedcfaaDoorW.PrintLast.i64_w, Go.Proofs.YtogcjflneedcfaaDoorW.PrintLast.i32_w]
      rfl
    refine Go.Proofs.YtogcjflneedcfaaDoorW.PrintLast.pure_ (i := 23) (N := some 28) (v := _) (a' := ?_) #[true, true, true, true, true, true, true, true, true, true, true, true, true, true, true, true, true, true, true, true, true, true, true, true, false, false, false, false, false, false, false, false, false] rfl rfl (by kernel_rfl) (fun _ _ _ h => h) (Or.inr ⟨by rfl, rfl⟩) ?_ ?_
    rotate_left
    · simp only [Act.put, List.setIfInBounds_toArray, List.set_cons_zero, List.set_cons_succ, Go.Proofs.YtogcjflneedcfaaDoorW.PrintLast.i64_w, Go.Proofs.YtogcjflneedcfaaDoorW.PrintLast.i32_w]
      rfl
    refine Go.Proofs.YtogcjflneedcfaaDoorW.PrintLast.pure_ (i := 24) (N := some 29) (v := _) (a' := ?_) #[true, true, true, true, true, true, true, true, true, true, true, true, true, true, true, true, true, true, true, true, true, true, true, true, true, false, false, false, false, false, false, false, false] rfl rfl (by kernel_rfl) (fun _ _ _ h => h) (Or.inr ⟨by rfl, rfl⟩) ?_ ?_
    rotate_left
    · simp only [Act.put, List.setIfInBounds_toArray, List.set_cons_zero, List.set_cons_succ, Go.Proofs.YtogcjflneedcfaaDoorW.PrintLast.i64_w, Go.Proofs.YtogcjflneedcfaaDoorW.PrintLast.i32_w]
      rfl
    refine Go.Proofs.YtogcjflneedcfaaDoorW.PrintLast.pure_ (i := 25) (N := some 30) (v := _) (a' := ?_) #[true, true, true, true, true, true, true, true, true, true, true, true, true, true, true, true, true, true, true, true, true, true, true, true, true, true, false, false, false, false, false, false, false] rfl rfl (by kernel_rfl) (fun _ _ _ h => h) (Or.inr ⟨by rfl, rfl⟩) ?_ ?_
    rotate_left
    · simp only [Act.put, List.setIfInBounds_toArray, List.set_cons_zero, List.set_cons_succ, Go.Proofs.YtogcjflneedcfaaDoorW.PrintLast.i64_w, Go.Proofs.YtogcjflneedcfaaDoorW.PrintLast.i32_w]
      rfl
    refine Go.Proofs.YtogcjflneedcfaaDoorW.PrintLast.pure_ (i := 26) (N := some 31) (v := _) (a' := ?_) #[true, true, true, true, true, true, true, true, true, true, true, true, true, true, true, true, true, true, true, true, true, true, true, true, true, true, true, false, false, false, false, false, false] rfl rfl (by kernel_rfl) (fun _ _ _ h => h) (Or.inr ⟨by rfl, rfl⟩) ?_ ?_
    rotate_left
    · simp only [Act.put, List.setIfInBounds_toArray, List.set_cons_zero, List.set_cons_succ, Go.Proofs.YtogcjflneedcfaaDoorW.PrintLast.i64_w, Go.Proofs.YtogcjflneedcfaaDoorW.PrintLast.i32_w]
      rfl
    refine Go.Proofs.YtogcjflneedcfaaDoorW.PrintLast.pure_ (i := 27) (N := some 32) (v := _) (a' := ?_) #[true, true, true, true, true, true, true, true, true, true, true, true, true, true, true, true, true, true, true, true, true, true, true, true, true, true, true, true, false, false, false, false, false] rfl rfl (by kernel_rfl) (fun _ _ _ h => h) (Or.inr ⟨by rfl, rfl⟩) ?_ ?_
    rotate_left
    · simp only [Act.put, List.setIfInBounds_toArray, List.set_cons_zero, List.set_cons_succ, Go.Proofs.YtogcjflneedcfaaDoorW.PrintLast.i64_w, Go.Proofs.YtogcjflneedcfaaDoorW.PrintLast.i32_w]
      rfl
    refine Go.Proofs.YtogcjflneedcfaaDoorW.PrintLast.pure_ (i := 28) (N := some 33) (v := _) (a' := ?_) #[true, true, true, true, true, true, true, true, true, true, true, true, true, true, true, true, true, true, true, true, true, true, true, true, true, true, true, true, true, false, false, false, false] rfl rfl (by kernel_rfl) (fun _ _ _ h => h) (Or.inr ⟨by rfl, rfl⟩) ?_ ?_
    rotate_left
    · simp only [Act.put, List.setIfInBounds_toArray, List.set_cons_zero, List.set_cons_succ, Go.Proofs.YtogcjflneedcfaaDoorW.PrintLast.i64_w, Go.Proofs.YtogcjflneedcfaaDoorW.PrintLast.i32_w]
      rfl
    refine Go.Proofs.YtogcjflneedcfaaDoorW.PrintLast.pure_ (i := 29) (N := some 34) (v := _) (a' := ?_) #[true, true, true, true, true, true, true, true, true, true, true, true, true, true, true, true, true, true, true, true, true, true, true, true, true, true, true, true, true, true, false, false, false] rfl rfl (by kernel_rfl) (fun _ _ _ h => h) (Or.inr ⟨by rfl, rfl⟩) ?_ ?_
    rotate_left
    · simp only [Act.put, List.setIfInBounds_toArray, List.set_cons_zero, List.set_cons_succ, Go.Proofs.YtogcjflneedcfaaDoorW.PrintLast.i64_w, Go.Proofs.YtogcjflneedcfaaDoorW.PrintLast.i32_w]
      rfl
    refine Go.Proofs.YtogcjflneedcfaaDoorW.PrintLast.pure_ (i := 30) (N := some 35) (v := _) (a' := ?_) #[true, true, true, true, true, true, true, true, true, true, true, true, true, true, true, true, true, true, true, true, true, true, true, true, true, true, true, true, true, true, true, false, false] rfl rfl (by kernel_rfl) (fun _ _ _ h => h) (Or.inr ⟨by rfl, rfl⟩) ?_ ?_
    rotate_left
    · simp only [Act.put, List.setIfInBounds_toArray, List.set_cons_zero, List.set_cons_succ, Go.Proofs.YtogcjflneedcfaaDoorW.PrintLast.i64_w, Go.Proofs.YtogcjflneedcfaaDoorW.PrintLast.i32_w]
      rfl
    refine Go.Proofs.YtogcjflneedcfaaDoorW.PrintLast.pure_ (i := 31) (N := some 36) (v := ?_) (a' := ?_) #[true, true, true, true, true, true, true, true, true, true, true, true, true, true, true, true, true, true, true, true, true, true, true, true, true, true, true, true, true, true, true, true, false] rfl rfl (by kernel_rfl) (fun _ _ _ h => h) (Or.inl ⟨by rfl, ?_⟩) ?_ ?_
    rotate_left
    · intro w'
      go_simp
      with_reducible rfl
    rotate_left
    · simp only [Act.put, List.setIfInBounds_toArray, List.set_cons_zero, List.set_cons_succ, Go.Proofs.YtogcjflneedcfaaDoorW.PrintLast.i64_w, Go.Proofs.YtogcjflneedcfaaDoorW.PrintLast.i32_w]
      rfl
    refine Go.Proofs.YtogcjflneedcfaaDoorW.PrintLast.pure_ (i := 32) (N := some 4) (v := ?_) (a' := ?_) #[true, true, true, true, true, true, true, true, true, true, true, true, true, true, true, true, true, true, true, true, true, true, true, true, true, true, true, true, true, true, true, true, true] rfl rfl (by kernel_rfl) (fun _ _ _ h => h) (Or.inl ⟨by rfl, ?_⟩) ?_ ?_
    rotate_left
    · intro w'
      go_simp
      with_reducible rfl
    rotate_left
    · simp only [Act.put, List.setIfInBounds_toArray, List.set_cons_zero, List.set_cons_succ, Go.Proofs.YtogcjflneedcfaaDoorW.PrintLast.i64_w, Go.Proofs.YtogcjflneedcfaaDoorW.PrintLast.i32_w]
      rfl
    refine Go.Proofs.YtogcjflneedcfaaDoorW.PrintLast.done_ (by kernel_rfl) ?_
    go_wp2
    go_ret
    exact ⟨rfl, hHeld.1⟩
  · have h2 : (g.tx != r.tx) = true := by simpa using h1
    rw [h2, Bool.true_and]
    cases hm : meetB g.o.s g.o.t g.o.l g.o.u g.o.e r.o.s r.o.t r.o.l r.o.u r.o.e
    · rw [Bool.false_and]
      go_enter Tryd.func64, Tryd.ntmps64
      go_wp2
      refine Go.Proofs.YtogcjflneedcfaaDoorW.PrintLast.start_ (n := 33) (S := fun v => St w v ∧ v.cell? ⟨p, 0, none⟩ = some (.int .i64 g.tx) ∧ v.cell? ⟨p, 1, none⟩ = some (.int .i64 g.o.s) ∧ v.cell? ⟨p, 2, none⟩ = some (.string g.o.t) ∧ v.cell? ⟨p, 3, none⟩ = some (.string g.o.l) ∧ v.cell? ⟨p, 4, none⟩ = some (.string g.o.u) ∧ v.cell? ⟨p, 5, none⟩ = some (.bool g.o.e) ∧ v.cell? ⟨p, 6, none⟩ = some (.int .i64 g.m) ∧ v.cell? ⟨q, 0, none⟩ = some (.int .i64 r.tx) ∧ v.cell? ⟨q, 1, none⟩ = some (.int .i64 r.o.s) ∧ v.cell? ⟨q, 2, none⟩ = some (.string r.o.t) ∧ v.cell? ⟨q, 3, none⟩ = some (.string r.o.l) ∧ v.cell? ⟨q, 4, none⟩ = some (.string r.o.u) ∧ v.cell? ⟨q, 5, none⟩ = some (.bool r.o.e) ∧ v.cell? ⟨q, 6, none⟩ = some (.int .i64 r.m)) (ds := [32]) #[false, false, false, false, false, false, false, false, false, false, false, false, false, false, false, false, false, false, false, false, false, false, false, false, false, false, false, false, false, false, false, false, false] (by kernel_rfl) rfl rfl ⟨(St.refl gl).drew, c0, c1, c2, c3, c4, c5, c6, d0, d1, d2, d3, d4, d5, d6⟩ (fun hHeld => ?_)
      refine Go.Proofs.YtogcjflneedcfaaDoorW.PrintLast.pure_ (i := 0) (N := some 5) (v := ?_) (a' := ?_) #[true, false, false, false, false, false, false, false, false, false, false, false, false, false, false, false, false, false, false, false, false, false, false, false, false, false, false, false, false, false, false, false, false] rfl rfl (by kernel_rfl) (fun _ _ _ h => h) (Or.inl ⟨by rfl, ?_⟩) ?_ ?_
      rotate_left
      · intro w'
        go_simp
        with_reducible rfl
      rotate_left
      · simp only [Act.put, List.setIfInBounds_toArray, List.set_cons_zero, List.set_cons_succ, Go.Proofs.YtogcjflneedcfaaDoorW.PrintLast.i64_w, Go.Proofs.YtogcjflneedcfaaDoorW.PrintLast.i32_w]
        rfl
      refine Go.Proofs.YtogcjflneedcfaaDoorW.PrintLast.pure_ (i := 1) (N := some 6) (v := ?_) (a' := ?_) #[true, true, false, false, false, false, false, false, false, false, false, false, false, false, false, false, false, false, false, false, false, false, false, false, false, false, false, false, false, false, false, false, false] rfl rfl (by kernel_rfl) (fun _ _ _ h => h) (Or.inl ⟨by rfl, ?_⟩) ?_ ?_
      rotate_left
      · intro w'
        go_simp
        with_reducible rfl
      rotate_left
      · simp only [Act.put, List.setIfInBounds_toArray, List.set_cons_zero, List.set_cons_succ, Go.Proofs.YtogcjflneedcfaaDoorW.PrintLast.i64_w, Go.Proofs.YtogcjflneedcfaaDoorW.PrintLast.i32_w]
        rfl
      refine Go.Proofs.YtogcjflneedcfaaDoorW.PrintLast.pure_ (i := 2) (N := some 7) (v := ?_) (a' := ?_) #[true, true, true, false, false, false, false, false, false, false, false, false, false, false, false, false, false, false, false, false, false, false, false, false, false, false, false, false, false, false, false, false, false] rfl rfl (by kernel_rfl) (fun _ _ _ h => h) (Or.inl ⟨by rfl, ?_⟩) ?_ ?_
      rotate_left
      · intro w'
        go_simp
        with_reducible rfl
      rotate_left
      · simp only [Act.put, List.setIfInBounds_toArray, List.set_cons_zero, List.set_cons_succ, Go.Proofs.YtogcjflneedcfaaDoorW.PrintLast.i64_w, Go.Proofs.YtogcjflneedcfaaDoorW.PrintLast.i32_w]
        rfl
      refine Go.Proofs.YtogcjflneedcfaaDoorW.PrintLast.take_ (i := 3) (N := some 8) (v := ?_) (a' := ?_) #[true, true, true, true, false, false, false, false, false, false, false, false, false, false, false, false, false, false, false, false, false, false, false, false, false, false, false, false, false, false, false, false, false] rfl rfl (by kernel_rfl) (fun _ _ _ h => h) (Or.inl ⟨by rfl, ?_⟩) hHeld ?_ ?_
      rotate_left
      · rintro w' ⟨ss, a0, a1, a2, a3, a4, a5, a6, b0, b1, b2, b3, b4, b5, b6⟩
        go_simp
        with_reducible rfl
      rotate_left
      · simp only [Act.put, List.setIfInBounds_toArray, List.set_cons_zero, List.set_cons_succ, Go.Proofs.YtogcjflneedcfaaDoorW.PrintLast.i64_w, Go.Proofs.YtogcjflneedcfaaDoorW.PrintLast.i32_w]
        rfl
      refine Go.Proofs.YtogcjflneedcfaaDoorW.PrintLast.pure_ (i := 4) (N := some 9) (v := ?_) (a' := ?_) #[true, true, true, true, true, false, false, false, false, false, false, false, false, false, false, false, false, false, false, false, false, false, false, false, false, false, false, false, false, false, false, false, false] rfl rfl (by kernel_rfl) (fun _ _ _ h => h) (Or.inl ⟨by rfl, ?_⟩) ?_ ?_
      rotate_left
      · intro w'
        go_simp
        with_reducible rfl
      rotate_left
      · simp only [Act.put, List.setIfInBounds_toArray, List.set_cons_zero, List.set_cons_succ, Go.Proofs.YtogcjflneedcfaaDoorW.PrintLast.i64_w, Go.Proofs.YtogcjflneedcfaaDoorW.PrintLast.i32_w]
        rfl
      refine Go.Proofs.YtogcjflneedcfaaDoorW.PrintLast.pure_ (i := 5) (N := some 10) (v := ?_) (a' := ?_) #[true, true, true, true, true, true, false, false, false, false, false, false, false, false, false, false, false, false, false, false, false, false, false, false, false, false, false, false, false, false, false, false, false] rfl rfl (by kernel_rfl) (fun _ _ _ h => h) (Or.inl ⟨by rfl, ?_⟩) ?_ ?_
      rotate_left
      · intro w'
        go_simp
        with_reducible rfl
      rotate_left
      · simp only [Act.put, List.setIfInBounds_toArray, List.set_cons_zero, List.set_cons_succ, Go.Proofs.YtogcjflneedcfaaDoorW.PrintLast.i64_w, Go.Proofs.YtogcjflneedcfaaDoorW.PrintLast.i32_w]
        rfl
      refine Go.Proofs.YtogcjflneedcfaaDoorW.PrintLast.pure_ (i := 6) (N := some 11) (v := ?_) (a' := ?_) #[true, true, true, true, true, true, true, false, false, false, false, false, false, false, false, false, false, false, false, false, false, false, false, false, false, false, false, false, false, false, false, false, false] rfl rfl (by kernel_rfl) (fun _ _ _ h => h) (Or.inl ⟨by rfl, ?_⟩) ?_ ?_
      rotate_left
      · intro w'
        go_simp
        with_reducible rfl
      rotate_left
      · simp only [Act.put, List.setIfInBounds_toArray, List.set_cons_zero, List.set_cons_succ, Go.Proofs.YtogcjflneedcfaaDoorW.PrintLast.i64_w, Go.Proofs.YtogcjflneedcfaaDoorW.PrintLast.i32_w]
        rfl
      refine Go.Proofs.YtogcjflneedcfaaDoorW.PrintLast.take_ (i := 7) (N := some 12) (v := ?_) (a' := ?_) #[true, true, true, true, true, true, true, true, false, false, false, false, false, false, false, false, false, false, false, false, false, false, false, false, false, false, false, false, false, false, false, false, false] rfl rfl (by kernel_rfl) (fun _ _ _ h => h) (Or.inl ⟨by rfl, ?_⟩) hHeld ?_ ?_
      rotate_left
      · rintro w' ⟨ss, a0, a1, a2, a3, a4, a5, a6, b0, b1, b2, b3, b4, b5, b6⟩
        go_simp
        with_reducible rfl
      rotate_left
      · simp only [Act.put, List.setIfInBounds_toArray, List.set_cons_zero, List.set_cons_succ, Go.Proofs.YtogcjflneedcfaaDoorW.PrintLast.i64_w, Go.Proofs.YtogcjflneedcfaaDoorW.PrintLast.i32_w]
        rfl
      refine Go.Proofs.YtogcjflneedcfaaDoorW.PrintLast.pure_ (i := 8) (N := some 13) (v := ?_) (a' := ?_) #[true, true, true, true, true, true, true, true, true, false, false, false, false, false, false, false, false, false, false, false, false, false, false, false, false, false, false, false, false, false, false, false, false] rfl rfl (by kernel_rfl) (fun _ _ _ h => h) (Or.inl ⟨by rfl, ?_⟩) ?_ ?_
      rotate_left
      · intro w'
        go_simp
        with_reducible rfl
      rotate_left
      · simp only [Act.put, List.setIfInBounds_toArray, List.set_cons_zero, List.set_cons_succ, Go.Proofs.YtogcjflneedcfaaDoorW.PrintLast.i64_w, Go.Proofs.YtogcjflneedcfaaDoorW.PrintLast.i32_w]
        rfl
      refine Go.Proofs.YtogcjflneedcfaaDoorW.PrintLast.pure_ (i := 9) (N := some 14) (v := ?_) (a' := ?_) #[true, true, true, true, true, true, true, true, true, true, false, false, false, false, false, false, false, false, false, false, false, false, false, false, false, false, false, false, false, false, false, false, false] rfl rfl (by kernel_rfl) (fun _ _ _ h => h) (Or.inl ⟨by rfl, ?_⟩) ?_ ?_
      rotate_left
      · intro w'
        go_simp
        with_reducible rfl
      rotate_left
      · simp only [Act.put, List.setIfInBounds_toArray, List.set_cons_zero, List.set_cons_succ, Go.Proofs.YtogcjflneedcfaaDoorW.PrintLast.i64_w, Go.Proofs.YtogcjflneedcfaaDoorW.PrintLast.i32_w]
        rfl
      refine Go.Proofs.YtogcjflneedcfaaDoorW.PrintLast.pure_ (i := 10) (N := some 15) (v := ?_) (a' := ?_) #[true, true, true, true, true, true, true, true, true, true, true, false, false, false, false, false, false, false, false, false, false, false, false, false, false, false, false, false, false, false, false, false, false] rfl rfl (by kernel_rfl) (fun _ _ _ h => h) (Or.inl ⟨by rfl, ?_⟩) ?_ ?_
      rotate_left
      · intro w'
        go_simp
        with_reducible rfl
      rotate_left
      · simp only [Act.put, List.setIfInBounds_toArray, List.set_cons_zero, List.set_cons_succ, Go.Proofs.YtogcjflneedcfaaDoorW.PrintLast.i64_w, Go.Proofs.YtogcjflneedcfaaDoorW.PrintLast.i32_w]
        rfl
      refine Go.Proofs.YtogcjflneedcfaaDoorW.PrintLast.pure_ (i := 11) (N := some 16) (v := ?_) (a' := ?_) #[true, true, true, true, true, true, true, true, true, true, true, true, false, false, false, false, false, false, false, false, false, false, false, false, false, false, false, false, false, false, false, false, false] rfl rfl (by kernel_rfl) (fun _ _ _ h => h) (Or.inl ⟨by rfl, ?_⟩) ?_ ?_
      rotate_left
      · intro w'
        go_simp
        with_reducible rfl
      rotate_left
      · simp only [Act.put, List.setIfInBounds_toArray, List.set_cons_zero, List.set_cons_succ, Go.Proofs.YtogcjflneedcfaaDoorW.PrintLast.i64_w, Go.Proofs.YtogcjflneedcfaaDoorW.PrintLast.i32_w]
        rfl
      refine Go.Proofs.YtogcjflneedcfaaDoorW.PrintLast.pure_ (i := 12) (N := some 17) (v := ?_) (a' := ?_) #[true, true, true, true, true, true, true, true, true, true, true, true, true, false, false, false, false, false, false, false, false, false, false, false, false, false, false, false, false, false, false, false, false] rfl rfl (by kernel_rfl) (fun _ _ _ h => h) (Or.inl ⟨by rfl, ?_⟩) ?_ ?_
      rotate_left
      · intro w'
        go_simp
        with_reducible rfl
      rotate_left
      · simp only [Act.put, List.setIfInBounds_toArray, List.set_cons_zero, List.set_cons_succ, Go.Proofs.YtogcjflneedcfaaDoorW.PrintLast.i64_w, Go.Proofs.YtogcjflneedcfaaDoorW.PrintLast.i32_w]
        rfl
      refine Go.Proofs.YtogcjflneedcfaaDoorW.PrintLast.take_ (i := 13) (N := some 18) (v := ?_) (a' := ?_) #[true, true, true, true, true, true, true, true, true, true, true, true, true, true, false, false, false, false, false, false, false, false, false, false, false, false, false, false, false, false, false, false, false] rfl rfl (by kernel_rfl) (fun _ _ _ h => h) (Or.inl ⟨by rfl, ?_⟩) hHeld ?_ ?_
      rotate_left
      · rintro w' ⟨ss, a0, a1, a2, a3, a4, a5, a6, b0, b1, b2, b3, b4, b5, b6⟩
        go_simp
        with_reducible rfl
      rotate_left
      · simp only [Act.put, List.setIfInBounds_toArray, List.set_cons_zero, List.set_cons_succ, Go.Proofs.YtogcjflneedcfaaDoorW.PrintLast.i64_w, Go.Proofs.YtogcjflneedcfaaDoorW.PrintLast.i32_w]
        rfl
      refine Go.Proofs.YtogcjflneedcfaaDoorW.PrintLast.pure_ (i := 14) (N := some 19) (v := ?_) (a' := ?_) #[true, true, true, true, true, true, true, true, true, true, true, true, true, true, true, false, false, false, false, false, false, false, false, false, false, false, false, false, false, false, false, false, false] rfl rfl (by kernel_rfl) (fun _ _ _ h => h) (Or.inl ⟨by rfl, ?_⟩) ?_ ?_
      rotate_left
      · intro w'
        go_simp
        with_reducible rfl
      rotate_left
      · simp only [Act.put, List.setIfInBounds_toArray, List.set_cons_zero, List.set_cons_succ, Go.Proofs.YtogcjflneedcfaaDoorW.PrintLast.i64_w, Go.Proofs.YtogcjflneedcfaaDoorW.PrintLast.i32_w]
        rfl
      refine Go.Proofs.YtogcjflneedcfaaDoorW.PrintLast.pure_ (i := 15) (N := some 20) (v := ?_) (a' := ?_) #[true, true, true, true, true, true, true, true, true, true, true, true, true, true, true, true, false, false, false, false, false, false, false, false, false, false, false, false, false, false, false, false, false] rfl rfl (by kernel_rfl) (fun _ _ _ h => h) (Or.inl ⟨by rfl, ?_⟩) ?_ ?_
      rotate_left
      · intro w'
        go_simp
        with_reducible rfl
      rotate_left
      · simp only [Act.put, List.setIfInBounds_toArray, List.set_cons_zero, List.set_cons_succ, Go.Proofs.YtogcjflneedcfaaDoorW.PrintLast.i64_w, Go.Proofs.YtogcjflneedcfaaDoorW.PrintLast.i32_w]
        rfl
      refine Go.Proofs.YtogcjflneedcfaaDoorW.PrintLast.pure_ (i := 16) (N := some 21) (v := ?_) (a' := ?_) #[true, true, true, true, true, true, true, true, true, true, true, true, true, true, true, true, true, false, false, false, false, false, false, false, false, false, false, false, false, false, false, false, false] rfl rfl (by kernel_rfl) (fun _ _ _ h => h) (Or.inl ⟨by rfl, ?_⟩) ?_ ?_
      rotate_left
      · intro w'
        go_simp
        with_reducible rfl
      rotate_left
      · simp only [Act.put, List.setIfInBounds_toArray, List.set_cons_zero, List.set_cons_succ, Go.Proofs.YtogcjflneedcfaaDoorW.PrintLast.i64_w, Go.Proofs.YtogcjflneedcfaaDoorW.PrintLast.i32_w]
        rfl
      refine Go.Proofs.YtogcjflneedcfaaDoorW.PrintLast.take_ (i := 17) (N := some 22) (v := ?_) (a' := ?_) #[true, true, true, true, true, true, true, true, true, true, true, true, true, true, true, true, true, true, false, false, false, false, false, false, false, false, false, false, false, false, false, false, false] rfl rfl (by kernel_rfl) (fun _ _ _ h => h) (Or.inl ⟨by rfl, ?_⟩) hHeld ?_ ?_
      rotate_left
      · rintro w' ⟨ss, a0, a1, a2, a3, a4, a5, a6, b0, b1, b2, b3, b4, b5, b6⟩
        go_simp
        with_reducible rfl
      rotate_left
      · simp only [Act.put, List.setIfInBounds_toArray, List.set_cons_zero, List.set_cons_succ, Go.Proofs.YtogcjflneedcfaaDoorW.PrintLast.i64_w, Go.Proofs.YtogcjflneedcfaaDoorW.PrintLast.i32_w]
        rfl
      refine Go.Proofs.YtogcjflneedcfaaDoorW.PrintLast.one_ (i := 18) (N := some 23) #[true, true, true, true, true, true, true, true, true, true, true, true, true, true, true, true, true, true, true, false, false, false, false, false, false, false, false, false, false, false, false, false, false] rfl rfl (by kernel_rfl) (by decide) (fun K hK => ?_)
      refine Go.Proofs.YtogcjflneedcfaaDoorW.PrintLast.goes_ Tryd.func75 (by kernel_rfl) rfl #[.agg #[.int .i64 g.o.s, .string g.o.t, .string g.o.l, .string g.o.u, .bool g.o.e], .agg #[.int .i64 r.o.s, .string r.o.t, .string r.o.l, .string r.o.u, .bool r.o.e]] (by rfl) rfl rfl (by (try simp only [List.map_toArray, List.map_cons, List.map_nil]); first | done | rfl) ?_
      refine (meet_b g.o r.o _ hm _ hHeld.1.gl).mono ?_
      rintro e w2 ⟨rfl, hb⟩
      refine ⟨_, rfl, ?_⟩
      refine hK.out _ _ (held_to hb hHeld) (fun hHeld => ?_)
      clear hK K
      refine Go.Proofs.YtogcjflneedcfaaDoorW.PrintLast.norm_ (a' := ?_) ?_ ?_
      rotate_left
      · show Act.put _ (some 23) _ = _
        simp only [Act.put, List.setIfInBounds_toArray, List.set_cons_zero, List.set_cons_succ, Go.Proofs.YtogcjflneedcfaaDoorW.PrintLast.i64_w, Go.Proofs.YtogcjflneedcfaaDoorW.PrintLast.i32_w]
        rfl
      refine Go.Proofs.YtogcjflneedcfaaDoorW.PrintLast.pure_ (i := 19) (N := some 24) (v := ?_) (a' := ?_) #[true, true, true, true, true, true, true, true, true, true, true, true, true, true, true, true, true, true, true, true, false, false, false, false, false, false, false, false, false, false, false, false, false] rfl rfl (by kernel_rfl) (fun _ _ _ h => h) (Or.inl ⟨by rfl, ?_⟩) ?_ ?_
      rotate_left
      · intro w'
        go_simp
        with_reducible rfl
      rotate_left
      · simp only [Act.put, List.setIfInBounds_toArray, List.set_cons_zero, List.set_cons_succ, Go.Proofs.YtogcjflneedcfaaDoorW.PrintLast.i64_w, Go.Proofs.YtogcjflneedcfaaDoorW.PrintLast.i32_w]
        rfl
      refine Go.Proofs.YtogcjflneedcfaaDoorW.PrintLast.pure_ (i := 20) (N := some 25) (v := ?_) (a' := ?_) #[true, true, true, true, true, true, true, true, true, true, true, true, true, true, true, true, true, true, true, true, true, false, false, false, false, false, false, false, false, false, false, false, false] rfl rfl (by kernel_rfl) (fun _ _ _ h => h) (Or.inl ⟨by rfl, ?_⟩) ?_ ?_
      rotate_left
      · intro w'
        go_simp
        with_reducible rfl
      rotate_left
      · simp only [Act.put, List.setIfInBounds_toArray, List.set_cons_zero, List.set_cons_succ, Go.Proofs.YtogcjflneedcfaaDoorW.PrintLast.i64_w, Go.Proofs.YtogcjflneedcfaaDoorW.PrintLast.i32_w]
        rfl
      refine Go.Proofs.YtogcjflneedcfaaDoorW.PrintLast.pure_ (i := 21) (N := some 26) (v := _) (a' := ?_) #[true, true, true, true, true, true, true, true, true, true, true, true, true, true, true, true, true, true, true, true, true, true, false, false, false, false, false, false, false, false, false, false, false] rfl rfl (by kernel_rfl) (fun _ _ _ h => h) (Or.inr ⟨by rfl, rfl⟩) ?_ ?_
      rotate_left
      · simp only [Act.put, List.setIfInBounds_toArray, List.set_cons_zero, List.set_cons_succ, Go.Proofs.YtogcjflneedcfaaDoorW.PrintLast.i64_w, Go.Proofs.YtogcjflneedcfaaDoorW.PrintLast.i32_w]
        rfl
      refine Go.Proofs.YtogcjflneedcfaaDoorW.PrintLast.pure_ (i := 22) (N := some 27) (v := _) (a' := ?_) #[true, true, true, true, true, true, true, true, true, true, true, true, true, true, true, true, true, true, true, true, true, true, true, false, false, false, false, false, false, false, false, false, false] rfl rfl (by kernel_rfl) (fun _ _ _ h => h) (Or.inr ⟨by rfl, rfl⟩) ?_ ?_
      rotate_left
      · simp only [Act.put, List.setIfInBounds_toArray, List.set_cons_zero, List.set_cons_succ, Go.Proofs.YtogcjflneedcfaaDoorW.PrintLast.i64_w, Go.Proofs.YtogcjflneedcfaaDoorW.PrintLast.i32_w]
        rfl
      refine Go.Proofs.YtogcjflneedcfaaDoorW.PrintLast.pure_ (i := 23) (N := some 28) (v := _) (a' := ?_) #[true, true, true, true, true, true, true, true, true, true, true, true, true, true, true, true, true, true, true, true, true, true, true, true, false, false, false, false, false, false, false, false, false] rfl rfl (by kernel_rfl) (fun _ _ _ h => h) (Or.inr ⟨by rfl, rfl⟩) ?_ ?_
      rotate_left
      · simp only [Act.put, List.setIfInBounds_toArray, List.set_cons_zero, List.set_cons_succ, Go.Proofs.YtogcjflneedcfaaDoorW.PrintLast.i64_w, Go.Proofs.YtogcjflneedcfaaDoorW.PrintLast.i32_w]
        rfl
      refine Go.Proofs.YtogcjflneedcfaaDoorW.PrintLast.pure_ (i := 24) (N := some 29) (v := _) (a' := ?_) #[true, true, true, true, true, true, true, true, true, true, true, true, true, true, true, true, true, true, true, true, true, true, true, true, true, false, false, false, false, false, false, false, false] rfl rfl (by kernel_rfl) (fun _ _ _ h => h) (Or.inr ⟨by rfl, rfl⟩) ?_ ?_
      rotate_left
      · simp only [Act.put, List.setIfInBounds_toArray, List.set_cons_zero, List.set_cons_succ, Go.Proofs.YtogcjflneedcfaaDoorW.PrintLast.i64_w, Go.Proofs.YtogcjflneedcfaaDoorW.PrintLast.i32_w]
        rfl
      refine Go.Proofs.YtogcjflneedcfaaDoorW.PrintLast.pure_ (i := 25) (N := some 30) (v := _) (a' := ?_) #[true, true, true, true, true, true, true, true, true, true, true, true, true, true, true, true, true, true, true, true, true, true, true, true, true, true, false, false, false, false, false, false, false] rfl rfl (by kernel_rfl) (fun _ _ _ h => h) (Or.inr ⟨by rfl, rfl⟩) ?_ ?_
      rotate_left
      · simp only [Act.put, List.setIfInBounds_toArray, List.set_cons_zero, List.set_cons_succ, Go.Proofs.YtogcjflneedcfaaDoorW.PrintLast.i64_w, Go.Proofs.YtogcjflneedcfaaDoorW.PrintLast.i32_w]
        rfl
      refine Go.Proofs.YtogcjflneedcfaaDoorW.PrintLast.pure_ (i := 26) (N := some 31) (v := _) (a' := ?_) #[true, true, true, true, true, true, true, true, true, true, true, true, true, true, true, true, true, true, true, true, true, true, true, true, true, true, true, false, false, false, false, false, false] rfl rfl (by kernel_rfl) (fun _ _ _ h => h) (Or.inr ⟨by rfl, rfl⟩) ?_ ?_
      rotate_left
      · simp only [Act.put, List.setIfInBounds_toArray, List.set_cons_zero, List.set_cons_succ, Go.Proofs.YtogcjflneedcfaaDoorW.PrintLast.i64_w, Go.Proofs.YtogcjflneedcfaaDoorW.PrintLast.i32_w]
        rfl
      refine Go.Proofs.YtogcjflneedcfaaDoorW.PrintLast.pure_ (i := 27) (N := some 32) (v := _) (a' := ?_) #[true, true, true, true, true, true, true, true, true, true, true, true, true, true, true, true, true, true, true, true, true, true, true, true, true, true, true, true, false, false, false, false, false] rfl rfl (by kernel_rfl) (fun _ _ _ h => h) (Or.inr ⟨by rfl, rfl⟩) ?_ ?_
      rotate_left
      · simp only [Act.put, List.setIfInBounds_toArray, List.set_cons_zero, List.set_cons_succ, Go.Proofs.YtogcjflneedcfaaDoorW.PrintLast.i64_w, Go.Proofs.YtogcjflneedcfaaDoorW.PrintLast.i32_w]
        rfl
      refine Go.Proofs.YtogcjflneedcfaaDoorW.PrintLast.pure_ (i := 28) (N := some 33) (v := _) (a' := ?_) #[true, true, true, true, true, true, true, true, true, true, true, true, true, true, true, true, true, true, true, true, true, true, true, true, true, true, true, true, true, false, false, false, false] rfl rfl (by kernel_rfl) (fun _ _ _ h => h) (Or.inr ⟨by rfl, rfl⟩) ?_ ?_
      rotate_left
      · simp only [Act.put, List.setIfInBounds_toArray, List.set_cons_zero, List.set_cons_succ, Go.Proofs.YtogcjflneedcfaaDoorW.PrintLast.i64_w, Go.Proofs.YtogcjflneedcfaaDoorW.PrintLast.i32_w]
        rfl
      refine Go.Proofs.YtogcjflneedcfaaDoorW.PrintLast.pure_ (i := 29) (N := some 34) (v := _) (a' := ?_) #[true, true, true, true, true, true, true, true, true, true, true, true, true, true, true, true, true, true, true, true, true, true, true, true, true, true, true, true, true, true, false, false, false] rfl rfl (by kernel_rfl) (fun _ _ _ h => h) (Or.inr ⟨by rfl, rfl⟩) ?_ ?_
      rotate_left
      · simp only [Act.put, List.setIfInBounds_toArray, List.set_cons_zero, List.set_cons_succ, Go.Proofs.YtogcjflneedcfaaDoorW.PrintLast.i64_w, Go.Proofs.YtogcjflneedcfaaDoorW.PrintLast.i32_w]
        rfl
      refine Go.Proofs.YtogcjflneedcfaaDoorW.PrintLast.pure_ (i := 30) (N := some 35) (v := _) (a' := ?_) #[true, true, true, true, true, true, true, true, true, true, true, true, true, true, true, true, true, true, true, true, true, true, true, true, true, true, true, true, true, true, true, false, false] rfl rfl (by kernel_rfl) (fun _ _ _ h => h) (Or.inr ⟨by rfl, rfl⟩) ?_ ?_
      rotate_left
      · simp only [Act.put, List.setIfInBounds_toArray, List.set_cons_zero, List.set_cons_succ, Go.Proofs.YtogcjflneedcfaaDoorW.PrintLast.i64_w, Go.Proofs.YtogcjflneedcfaaDoorW.PrintLast.i32_w]
        rfl
      refine Go.Proofs.YtogcjflneedcfaaDoorW.PrintLast.pure_ (i := 31) (N := some 36) (v := ?_) (a' := ?_) #[true, true, true, true, true, true, true, true, true, true, true, true, true, true, true, true, true, true, true, true, true, true, true, true, true, true, true, true, true, true, true, true, false] rfl rfl (by kernel_rfl) (fun _ _ _ h => h) (Or.inl ⟨by rfl, ?_⟩) ?_ ?_
      rotate_left
      · intro w'
        go_simp
        with_reducible rfl
      rotate_left
      · simp only [Act.put, List.setIfInBounds_toArray, List.set_cons_zero, List.set_cons_succ, Go.Proofs.YtogcjflneedcfaaDoorW.PrintLast.i64_w, Go.Proofs.YtogcjflneedcfaaDoorW.PrintLast.i32_w]
        rfl
      refine Go.Proofs.YtogcjflneedcfaaDoorW.PrintLast.pure_ (i := 32) (N := some 4) (v := ?_) (a' := ?_) #[true, true, true, true, true, true, true, true, true, true, true, true, true, true, true, true, true, true, true, true, true, true, true, true, true, true, true, true, true, true, true, true, true] rfl rfl (by kernel_rfl) (fun _ _ _ h => h) (Or.inl ⟨by rfl, ?_⟩) ?_ ?_
      rotate_left
      · intro w'
        go_simp
        with_reducible rfl
      rotate_left
      · simp only [Act.put, List.setIfInBounds_toArray, List.set_cons_zero, List.set_cons_succ, Go.Proofs.YtogcjflneedcfaaDoorW.PrintLast.i64_w, Go.Proofs.YtogcjflneedcfaaDoorW.PrintLast.i32_w]
        rfl
      refine Go.Proofs.YtogcjflneedcfaaDoorW.PrintLast.done_ (by kernel_rfl) ?_
      go_wp2
      go_ret
      exact ⟨rfl, hHeld.1⟩
    · rw [Bool.true_and]
      go_enter Tryd.func64, Tryd.ntmps64
      go_wp2
      refine Go.Proofs.YtogcjflneedcfaaDoorW.PrintLast.start_ (n := 33) (S := fun v => St w v ∧ v.cell? ⟨p, 0, none⟩ = some (.int .i64 g.tx) ∧ v.cell? ⟨p, 1, none⟩ = some (.int .i64 g.o.s) ∧ v.cell? ⟨p, 2, none⟩ = some (.string g.o.t) ∧ v.cell? ⟨p, 3, none⟩ = some (.string g.o.l) ∧ v.cell? ⟨p, 4, none⟩ = some (.string g.o.u) ∧ v.cell? ⟨p, 5, none⟩ = some (.bool g.o.e) ∧ v.cell? ⟨p, 6, none⟩ = some (.int .i64 g.m) ∧ v.cell? ⟨q, 0, none⟩ = some (.int .i64 r.tx) ∧ v.cell? ⟨q, 1, none⟩ = some (.int .i64 r.o.s) ∧ v.cell? ⟨q, 2, none⟩ = some (.string r.o.t) ∧ v.cell? ⟨q, 3, none⟩ = some (.string r.o.l) ∧ v.cell? ⟨q, 4, none⟩ = some (.string r.o.u) ∧ v.cell? ⟨q, 5, none⟩ = some (.bool r.o.e) ∧ v.cell? ⟨q, 6, none⟩ = some (.int .i64 r.m)) (ds := [32]) #[false, false, false, false, false, false, false, false, false, false, false, false, false, false, false, false, false, false, false, false, false, false, false, false, false, false, false, false, false, false, false, false, false] (by kernel_rfl) rfl rfl ⟨(St.refl gl).drew, c0, c1, c2, c3, c4, c5, c6, d0, d1, d2, d3, d4, d5, d6⟩ (fun hHeld => ?_)
      refine Go.Proofs.YtogcjflneedcfaaDoorW.PrintLast.pure_ (i := 0) (N := some 5) (v := ?_) (a' := ?_) #[true, false, false, false, false, false, false, false, false, false, false, false, false, false, false, false, false, false, false, false, false, false, false, false, false, false, false, false, false, false, false, false, false] rfl rfl (by kernel_rfl) (fun _ _ _ h => h) (Or.inl ⟨by rfl, ?_⟩) ?_ ?_
      rotate_left
      · intro w'
        go_simp
        with_reducible rfl
      rotate_left
      · simp only [Act.put, List.setIfInBounds_toArray, List.set_cons_zero, List.set_cons_succ, Go.Proofs.YtogcjflneedcfaaDoorW.PrintLast.i64_w, Go.Proofs.YtogcjflneedcfaaDoorW.PrintLast.i32_w]
        rfl
      refine Go.Proofs.YtogcjflneedcfaaDoorW.PrintLast.pure_ (i := 1) (N := some 6) (v := ?_) (a' := ?_) #[true, true, false, false, false, false, false, false, false, false, false, false, false, false, false, false, false, false, false, false, false, false, false, false, false, false, false, false, false, false, false, false, false] rfl rfl (by kernel_rfl) (fun _ _ _ h => h) (Or.inl ⟨by rfl, ?_⟩) ?_ ?_
      rotate_left
      · intro w'
        go_simp
        with_reducible rfl
      rotate_left
      · simp only [Act.put, List.setIfInBounds_toArray, List.set_cons_zero, List.set_cons_succ, Go.Proofs.YtogcjflneedcfaaDoorW.PrintLast.i64_w, Go.Proofs.YtogcjflneedcfaaDoorW.PrintLast.i32_w]
        rfl
      refine Go.Proofs.YtogcjflneedcfaaDoorW.PrintLast.pure_ (i := 2) (N := some 7) (v := ?_) (a' := ?_) #[true, true, true, false, false, false, false, false, false, false, false, false, false, false, false, false, false, false, false, false, false, false, false, false, false, false, false, false, false, false, false, false, false] rfl rfl (by kernel_rfl) (fun _ _ _ h => h) (Or.inl ⟨by rfl, ?_⟩) ?_ ?_
      rotate_left
      · intro w'
        go_simp
        with_reducible rfl
      rotate_left
      · simp only [Act.put, List.setIfInBounds_toArray, List.set_cons_zero, List.set_cons_succ, Go.Proofs.YtogcjflneedcfaaDoorW.PrintLast.i64_w, Go.Proofs.YtogcjflneedcfaaDoorW.PrintLast.i32_w]
        rfl
      refine Go.Proofs.YtogcjflneedcfaaDoorW.PrintLast.take_ (i := 3) (N := some 8) (v := ?_) (a' := ?_) #[true, true, true, true, false, false, false, false, false, false, false, false, false, false, false, false, false, false, false, false, false, false, false, false, false, false, false, false, false, false, false, false, false] rfl rfl (by kernel_rfl) (fun _ _ _ h => h) (Or.inl ⟨by rfl, ?_⟩) hHeld ?_ ?_
      rotate_left
      · rintro w' ⟨ss, a0, a1, a2, a3, a4, a5, a6, b0, b1, b2, b3, b4, b5, b6⟩
        go_simp
        with_reducible rfl
      rotate_left
      · simp only [Act.put, List.setIfInBounds_toArray, List.set_cons_zero, List.set_cons_succ, Go.Proofs.YtogcjflneedcfaaDoorW.PrintLast.i64_w, Go.Proofs.YtogcjflneedcfaaDoorW.PrintLast.i32_w]
        rfl
      refine Go.Proofs.YtogcjflneedcfaaDoorW.PrintLast.pure_ (i := 4) (N := some 9) (v := ?_) (a' := ?_) #[true, true, true, true, true, false, false, false, false, false, false, false, false, false, false, false, false, false, false, false, false, false, false, false, false, false, false, false, false, false, false, false, false] rfl rfl (by kernel_rfl) (fun _ _ _ h => h) (Or.inl ⟨by rfl, ?_⟩) ?_ ?_
      rotate_left
      · intro w'
        go_simp
        with_reducible rfl
      rotate_left
      · simp only [Act.put, List.setIfInBounds_toArray, List.set_cons_zero, List.set_cons_succ, Go.Proofs.YtogcjflneedcfaaDoorW.PrintLast.i64_w, Go.Proofs.YtogcjflneedcfaaDoorW.PrintLast.i32_w]
        rfl
      refine Go.Proofs.YtogcjflneedcfaaDoorW.PrintLast.pure_ (i := 5) (N := some 10) (v := ?_) (a' := ?_) #[true, true, true, true, true, true, false, false, false, false, false, false, false, false, false, false, false, false, false, false, false, false, false, false, false, false, false, false, false, false, false, false, false] rfl rfl (by kernel_rfl) (fun _ _ _ h => h) (Or.inl ⟨by rfl, ?_⟩) ?_ ?_
      rotate_left
      · intro w'
        go_simp
        with_reducible rfl
      rotate_left
      · simp only [Act.put, List.setIfInBounds_toArray, List.set_cons_zero, List.set_cons_succ, Go.Proofs.YtogcjflneedcfaaDoorW.PrintLast.i64_w, Go.Proofs.YtogcjflneedcfaaDoorW.PrintLast.i32_w]
        rfl
      refine Go.Proofs.YtogcjflneedcfaaDoorW.PrintLast.pure_ (i := 6) (N := some 11) (v := ?_) (a' := ?_) #[true, true, true, true, true, true, true, false, false, false, false, false, false, false, false, false, false, false, false, false, false, false, false, false, false, false, false, false, false, false, false, false, false] rfl rfl (by kernel_rfl) (fun _ _ _ h => h) (Or.inl ⟨by rfl, ?_⟩) ?_ ?_
      rotate_left
      · intro w'
        go_simp
        with_reducible rfl
      rotate_left
      · simp only [Act.put, List.setIfInBounds_toArray, List.set_cons_zero, List.set_cons_succ, Go.Proofs.YtogcjflneedcfaaDoorW.PrintLast.i64_w, Go.Proofs.YtogcjflneedcfaaDoorW.PrintLast.i32_w]
        rfl
      refine Go.Proofs.YtogcjflneedcfaaDoorW.PrintLast.take_ (i := 7) (N := some 12) (v := ?_) (a' := ?_) #[true, true, true, true, true, true, true, true, false, false, false, false, false, false, false, false, false, false, false, false, false, false, false, false, false, false, false, false, false, false, false, false, false] rfl rfl (by kernel_rfl) (fun _ _ _ h => h) (Or.inl ⟨by rfl, ?_⟩) hHeld ?_ ?_
      rotate_left
      · rintro w' ⟨ss, a0, a1, a2, a3, a4, a5, a6, b0, b1, b2, b3, b4, b5, b6⟩
        go_simp
        with_reducible rfl
      rotate_left
      · simp only [Act.put, List.setIfInBounds_toArray, List.set_cons_zero, List.set_cons_succ, Go.Proofs.YtogcjflneedcfaaDoorW.PrintLast.i64_w, Go.Proofs.YtogcjflneedcfaaDoorW.PrintLast.i32_w]
        rfl
      refine Go.Proofs.YtogcjflneedcfaaDoorW.PrintLast.pure_ (i := 8) (N := some 13) (v := ?_) (a' := ?_) #[true, true, true, true, true, true, true, true, true, false, false, false, false, false, false, false, false, false, false, false, false, false, false, false, false, false, false, false, false, false, false, false, false] rfl rfl (by kernel_rfl) (fun _ _ _ h => h) (Or.inl ⟨by rfl, ?_⟩) ?_ ?_
      rotate_left
      · intro w'
        go_simp
        with_reducible rfl
      rotate_left
      · simp only [Act.put, List.setIfInBounds_toArray, List.set_cons_zero, List.set_cons_succ, Go.Proofs.YtogcjflneedcfaaDoorW.PrintLast.i64_w, Go.Proofs.YtogcjflneedcfaaDoorW.PrintLast.i32_w]
        rfl
      refine Go.Proofs.YtogcjflneedcfaaDoorW.PrintLast.pure_ (i := 9) (N := some 14) (v := ?_) (a' := ?_) #[true, true, true, true, true, true, true, true, true, true, false, false, false, false, false, false, false, false, false, false, false, false, false, false, false, false, false, false, false, false, false, false, false] rfl rfl (by kernel_rfl) (fun _ _ _ h => h) (Or.inl ⟨by rfl, ?_⟩) ?_ ?_
      rotate_left
      · intro w'
        go_simp
        with_reducible rfl
      rotate_left
      · simp only [Act.put, List.setIfInBounds_toArray, List.set_cons_zero, List.set_cons_succ, Go.Proofs.YtogcjflneedcfaaDoorW.PrintLast.i64_w, Go.Proofs.YtogcjflneedcfaaDoorW.PrintLast.i32_w]
        rfl
      refine Go.Proofs.YtogcjflneedcfaaDoorW.PrintLast.pure_ (i := 10) (N := some 15) (v := ?_) (a' := ?_) #[true, true, true, true, true, true, true, true, true, true, true, false, false, false, false, false, false, false, false, false, false, false, false, false, false, false, false, false, false, false, false, false, false] rfl rfl (by kernel_rfl) (fun _ _ _ h => h) (Or.inl ⟨by rfl, ?_⟩) ?_ ?_
      rotate_left
      · intro w'
        go_simp
        with_reducible rfl
      rotate_left
      · simp only [Act.put, List.setIfInBounds_toArray, List.set_cons_zero, List.set_cons_succ, Go.Proofs.YtogcjflneedcfaaDoorW.PrintLast.i64_w, Go.Proofs.YtogcjflneedcfaaDoorW.PrintLast.i32_w]
        rfl
      refine Go.Proofs.YtogcjflneedcfaaDoorW.PrintLast.pure_ (i := 11) (N := some 16) (v := ?_) (a' := ?_) #[true, true, true, true, true, true, true, true, true, true, true, true, false, false, false, false, false, false, false, false, false, false, false, false, false, false, false, false, false, false, false, false, false] rfl rfl (by kernel_rfl) (fun _ _ _ h => h) (Or.inl ⟨by rfl, ?_⟩) ?_ ?_
      rotate_left
      · intro w'
        go_simp
        with_reducible rfl
      rotate_left
      · simp only [Act.put, List.setIfInBounds_toArray, List.set_cons_zero, List.set_cons_succ, Go.Proofs.YtogcjflneedcfaaDoorW.PrintLast.i64_w, Go.Proofs.YtogcjflneedcfaaDoorW.PrintLast.i32_w]
        rfl
      refine Go.Proofs.YtogcjflneedcfaaDoorW.PrintLast.pure_ (i := 12) (N := some 17) (v := ?_) (a' := ?_) #[true, true, true, true, true, true, true, true, true, true, true, true, true, false, false, false, false, false, false, false, false, false, false, false, false, false, false, false, false, false, false, false, false] rfl rfl (by kernel_rfl) (fun _ _ _ h => h) (Or.inl ⟨by rfl, ?_⟩) ?_ ?_
      rotate_left
      · intro w'
        go_simp
        with_reducible rfl
      rotate_left
      · simp only [Act.put, List.setIfInBounds_toArray, List.set_cons_zero, List.set_cons_succ, Go.Proofs.YtogcjflneedcfaaDoorW.PrintLast.i64_w, Go.Proofs.YtogcjflneedcfaaDoorW.PrintLast.i32_w]
        rfl
      refine Go.Proofs.YtogcjflneedcfaaDoorW.PrintLast.take_ (i := 13) (N := some 18) (v := ?_) (a' := ?_) #[true, true, true, true, true, true, true, true, true, true, true, true, true, true, false, false, false, false, false, false, false, false, false, false, false, false, false, false, false, false, false, false, false] rfl rfl (by kernel_rfl) (fun _ _ _ h => h) (Or.inl ⟨by rfl, ?_⟩) hHeld ?_ ?_
      rotate_left
      · rintro w' ⟨ss, a0, a1, a2, a3, a4, a5, a6, b0, b1, b2, b3, b4, b5, b6⟩
        go_simp
        with_reducible rfl
      rotate_left
      · simp only [Act.put, List.setIfInBounds_toArray, List.set_cons_zero, List.set_cons_succ, Go.Proofs.YtogcjflneedcfaaDoorW.PrintLast.i64_w, Go.Proofs.YtogcjflneedcfaaDoorW.PrintLast.i32_w]
        rfl
      refine Go.Proofs.YtogcjflneedcfaaDoorW.PrintLast.pure_ (i := 14) (N := some 19) (v := ?_) (a' := ?_) #[true, true, true, true, true, true, true, true, true, true, true, true, true, true, true, false, false, false, false, false, false, false, false, false, false, false, false, false, false, false, false, false, false] rfl rfl (by kernel_rfl) (fun _ _ _ h => h) (Or.inl ⟨by rfl, ?_⟩) ?_ ?_
      rotate_left
      · intro w'
        go_simp
        with_reducible rfl
      rotate_left
      · simp only [Act.put, List.setIfInBounds_toArray, List.set_cons_zero, List.set_cons_succ, Go.Proofs.YtogcjflneedcfaaDoorW.PrintLast.i64_w, Go.Proofs.YtogcjflneedcfaaDoorW.PrintLast.i32_w]
        rfl
      refine Go.Proofs.YtogcjflneedcfaaDoorW.PrintLast.pure_ (i := 15) (N := some 20) (v := ?_) (a' := ?_) #[true, true, true, true, true, true, true, true, true, true, true, true, true, true, true, true, false, false, false, false, false, false, false, false, false, false, false, false, false, false, false, false, false] rfl rfl (by kernel_rfl) (fun _ _ _ h => h) (Or.inl ⟨by rfl, ?_⟩) ?_ ?_
      rotate_left
      · intro w'
        go_simp
        with_reducible rfl
      rotate_left
      · simp only [Act.put, List.setIfInBounds_toArray, List.set_cons_zero, List.set_cons_succ, Go.Proofs.YtogcjflneedcfaaDoorW.PrintLast.i64_w, Go.Proofs.YtogcjflneedcfaaDoorW.PrintLast.i32_w]
        rfl
      refine Go.Proofs.YtogcjflneedcfaaDoorW.PrintLast.pure_ (i := 16) (N := some 21) (v := ?_) (a' := ?_) #[true, true, true, true, true, true, true, true, true, true, true, true, true, true, true, true, true, false, false, false, false, false, false, false, false, false, false, false, false, false, false, false, false] rfl rfl (by kernel_rfl) (fun _ _ _ h => h) (Or.inl ⟨by rfl, ?_⟩) ?_ ?_
      rotate_left
      · intro w'
        go_simp
        with_reducible rfl
      rotate_left
      · simp only [Act.put, List.setIfInBounds_toArray, List.set_cons_zero, List.set_cons_succ, Go.Proofs.YtogcjflneedcfaaDoorW.PrintLast.i64_w, Go.Proofs.YtogcjflneedcfaaDoorW.PrintLast.i32_w]
        rfl
      refine Go.Proofs.YtogcjflneedcfaaDoorW.PrintLast.take_ (i := 17) (N := some 22) (v := ?_) (a' := ?_) #[true, true, true, true, true, true, true, true, true, true, true, true, true, true, true, true, true, true, false, false, false, false, false, false, false, false, false, false, false, false, false, false, false] rfl rfl (by kernel_rfl) (fun _ _ _ h => h) (Or.inl ⟨by rfl, ?_⟩) hHeld ?_ ?_
      rotate_left
      · rintro w' ⟨ss, a0, a1, a2, a3, a4, a5, a6, b0, b1, b2, b3, b4, b5, b6⟩
        go_simp
        with_reducible rfl
      rotate_left
      · simp only [Act.put, List.setIfInBounds_toArray, List.set_cons_zero, List.set_cons_succ, Go.Proofs.YtogcjflneedcfaaDoorW.PrintLast.i64_w, Go.Proofs.YtogcjflneedcfaaDoorW.PrintLast.i32_w]
        rfl
      refine Go.Proofs.YtogcjflneedcfaaDoorW.PrintLast.one_ (i := 18) (N := some 23) #[true, true, true, true, true, true, true, true, true, true, true, true, true, true, true, true, true, true, true, false, false, false, false, false, false, false, false, false, false, false, false, false, false] rfl rfl (by kernel_rfl) (by decide) (fun K hK => ?_)
      refine Go.Proofs.YtogcjflneedcfaaDoorW.PrintLast.goes_ Tryd.func75 (by kernel_rfl) rfl #[.agg #[.int .i64 g.o.s, .string g.o.t, .string g.o.l, .string g.o.u, .bool g.o.e], .agg #[.int .i64 r.o.s, .string r.o.t, .string r.o.l, .string r.o.u, .bool r.o.e]] (by rfl) rfl rfl (by (try simp only [List.map_toArray, List.map_cons, List.map_nil]); first | done | rfl) ?_
      refine (meet_b g.o r.o _ hm _ hHeld.1.gl).mono ?_
      rintro e w2 ⟨rfl, hb⟩
      refine ⟨_, rfl, ?_⟩
      refine hK.out _ _ (held_to hb hHeld) (fun hHeld => ?_)
      clear hK K
      refine Go.Proofs.YtogcjflneedcfaaDoorW.PrintLast.norm_ (a' := ?_) ?_ ?_
      rotate_left
      · show Act.put _ (some 23) _ = _
        simp only [Act.put, List.setIfInBounds_toArray, List.set_cons_zero, List.set_cons_succ, Go.Proofs.YtogcjflneedcfaaDoorW.PrintLast.i64_w, Go.Proofs.YtogcjflneedcfaaDoorW.PrintLast.i32_w]
        rfl
      refine Go.Proofs.YtogcjflneedcfaaDoorW.PrintLast.pure_ (i := 19) (N := some 24) (v := ?_) (a' := ?_) #[true, true, true, true, true, true, true, true, true, true, true, true, true, true, true, true, true, true, true, true, false, false, false, false, false, false, false, false, false, false, false, false, false] rfl rfl (by kernel_rfl) (fun _ _ _ h => h) (Or.inl ⟨by rfl, ?_⟩) ?_ ?_
      rotate_left
      · intro w'
        go_simp
        with_reducible rfl
      rotate_left
      · simp only [Act.put, List.setIfInBounds_toArray, List.set_cons_zero, List.set_cons_succ, Go.Proofs.YtogcjflneedcfaaDoorW.PrintLast.i64_w, Go.Proofs.YtogcjflneedcfaaDoorW.PrintLast.i32_w]
        rfl
      refine Go.Proofs.YtogcjflneedcfaaDoorW.PrintLast.pure_ (i := 20) (N := some 25) (v := ?_) (a' := ?_) #[true, true, true, true, true, true, true, true, true, true, true, true, true, true, true, true, true, true, true, true, true, false, false, false, false, false, false, false, false, false, false, false, false] rfl rfl (by kernel_rfl) (fun _ _ _ h => h) (Or.inl ⟨by rfl, ?_⟩) ?_ ?_
      rotate_left
      · intro w'
        go_simp
        with_reducible rfl
      rotate_left
      · simp only [Act.put, List.setIfInBounds_toArray, List.set_cons_zero, List.set_cons_succ, Go.Proofs.YtogcjflneedcfaaDoorW.PrintLast.i64_w, Go.Proofs.YtogcjflneedcfaaDoorW.PrintLast.i32_w]
        rfl
      refine Go.Proofs.YtogcjflneedcfaaDoorW.PrintLast.pure_ (i := 21) (N := some 26) (v := ?_) (a' := ?_) #[true, true, true, true, true, true, true, true, true, true, true, true, true, true, true, true, true, true, true, true, true, true, false, false, false, false, false, false, false, false, false, false, false] rfl rfl (by kernel_rfl) (fun _ _ _ h => h) (Or.inl ⟨by rfl, ?_⟩) ?_ ?_
      rotate_left
      · intro w'
        go_simp
        with_reducible rfl
      rotate_left
      · simp only [Act.put, List.setIfInBounds_toArray, List.set_cons_zero, List.set_cons_succ, Go.Proofs.YtogcjflneedcfaaDoorW.PrintLast.i64_w, Go.Proofs.YtogcjflneedcfaaDoorW.PrintLast.i32_w]
        rfl
      refine Go.Proofs.YtogcjflneedcfaaDoorW.PrintLast.pure_ (i := 22) (N := some 27) (v := ?_) (a' := ?_) #[true, true, true, true, true, true, true, true, true, true, true, true, true, true, true, true, true, true, true, true, true, true, true, false, false, false, false, false, false, false, false, false, false] rfl rfl (by kernel_rfl) (fun _ _ _ h => h) (Or.inl ⟨by rfl, ?_⟩) ?_ ?_
      rotate_left
      · intro w'
        go_simp
        with_reducible rfl
      rotate_left
      · simp only [Act.put, List.setIfInBounds_toArray, List.set_cons_zero, List.set_cons_succ, Go.Proofs.YtogcjflneedcfaaDoorW.PrintLast.i64_w, Go.Proofs.YtogcjflneedcfaaDoorW.PrintLast.i32_w]
        rfl
      refine Go.Proofs.YtogcjflneedcfaaDoorW.PrintLast.pure_ (i := 23) (N := some 28) (v := ?_) (a' := ?_) #[true, true, true, true, true, true, true, true, true, true, true, true, true, true, true, true, true, true, true, true, true, true, true, true, false, false, false, false, false, false, false, false, false] rfl rfl (by kernel_rfl) (fun _ _ _ h => h) (Or.inl ⟨by rfl, ?_⟩) ?_ ?_
      rotate_left
      · intro w'
        go_simp
        with_reducible rfl
      rotate_left
      · simp only [Act.put, List.setIfInBounds_toArray, List.set_cons_zero, List.set_cons_succ, Go.Proofs.YtogcjflneedcfaaDoorW.PrintLast.i64_w, Go.Proofs.YtogcjflneedcfaaDoorW.PrintLast.i32_w]
        rfl
      refine Go.Proofs.YtogcjflneedcfaaDoorW.PrintLast.take_ (i := 24) (N := some 29) (v := ?_) (a' := ?_) #[true, true, true, true, true, true, true, true, true, true, true, true, true, true, true, true, true, true, true, true, true, true, true, true, true, false, false, false, false, false, false, false, false] rfl rfl (by kernel_rfl) (fun _ _ _ h => h) (Or.inl ⟨by rfl, ?_⟩) hHeld ?_ ?_
      rotate_left
      · rintro w' ⟨ss, a0, a1, a2, a3, a4, a5, a6, b0, b1, b2, b3, b4, b5, b6⟩
        go_simp
        with_reducible rfl
      rotate_left
      · simp only [Act.put, List.setIfInBounds_toArray, List.set_cons_zero, List.set_cons_succ, Go.Proofs.YtogcjflneedcfaaDoorW.PrintLast.i64_w, Go.Proofs.YtogcjflneedcfaaDoorW.PrintLast.i32_w]
        rfl
      refine Go.Proofs.YtogcjflneedcfaaDoorW.PrintLast.pure_ (i := 25) (N := some 30) (v := ?_) (a' := ?_) #[true, true, true, true, true, true, true, true, true, true, true, true, true, true, true, true, true, true, true, true, true, true, true, true, true, true, false, false, false, false, false, false, false] rfl rfl (by kernel_rfl) (fun _ _ _ h => h) (Or.inl ⟨by rfl, ?_⟩) ?_ ?_
      rotate_left
      · intro w'
        go_simp
        with_reducible rfl
      rotate_left
      · simp only [Act.put, List.setIfInBounds_toArray, List.set_cons_zero, List.set_cons_succ, Go.Proofs.YtogcjflneedcfaaDoorW.PrintLast.i64_w, Go.Proofs.YtogcjflneedcfaaDoorW.PrintLast.i32_w]
        rfl
      refine Go.Proofs.YtogcjflneedcfaaDoorW.PrintLast.pure_ (i := 26) (N := some 31) (v := ?_) (a' := ?_) #[true, true, true, true, true, true, true, true, true, true, true, true, true, true, true, true, true, true, true, true, true, true, true, true, true, true, true, false, false, false, false, false, false] rfl rfl (by kernel_rfl) (fun _ _ _ h => h) (Or.inl ⟨by rfl, ?_⟩) ?_ ?_
      rotate_left
      · intro w'
        go_simp
        with_reducible rfl
      rotate_left
      · simp only [Act.put, List.setIfInBounds_toArray, List.set_cons_zero, List.set_cons_succ, Go.Proofs.YtogcjflneedcfaaDoorW.PrintLast.i64_w, Go.Proofs.YtogcjflneedcfaaDoorW.PrintLast.i32_w]
        rfl
      refine Go.Proofs.YtogcjflneedcfaaDoorW.PrintLast.pure_ (i := 27) (N := some 32) (v := ?_) (a' := ?_) #[true, true, true, true, true, true, true, true, true, true, true, true, true, true, true, true, true, true, true, true, true, true, true, true, true, true, true, true, false, false, false, false, false] rfl rfl (by kernel_rfl) (fun _ _ _ h => h) (Or.inl ⟨by rfl, ?_⟩) ?_ ?_
      rotate_left
      · intro w'
        go_simp
        with_reducible rfl
      rotate_left
      · simp only [Act.put, List.setIfInBounds_toArray, List.set_cons_zero, List.set_cons_succ, Go.Proofs.YtogcjflneedcfaaDoorW.PrintLast.i64_w, Go.Proofs.YtogcjflneedcfaaDoorW.PrintLast.i32_w]
        rfl
      refine Go.Proofs.YtogcjflneedcfaaDoorW.PrintLast.take_ (i := 28) (N := some 33) (v := ?_) (a' := ?_) #[true, true, true, true, true, true, true, true, true, true, true, true, true, true, true, true, true, true, true, true, true, true, true, true, true, true, true, true, true, false, false, false, false] rfl rfl (by kernel_rfl) (fun _ _ _ h => h) (Or.inl ⟨by rfl, ?_⟩) hHeld ?_ ?_
      rotate_left
      · rintro w' ⟨ss, a0, a1, a2, a3, a4, a5, a6, b0, b1, b2, b3, b4, b5, b6⟩
        go_simp
        with_reducible rfl
      rotate_left
      · simp only [Act.put, List.setIfInBounds_toArray, List.set_cons_zero, List.set_cons_succ, Go.Proofs.YtogcjflneedcfaaDoorW.PrintLast.i64_w, Go.Proofs.YtogcjflneedcfaaDoorW.PrintLast.i32_w]
        rfl
      refine Go.Proofs.YtogcjflneedcfaaDoorW.PrintLast.one_ (i := 29) (N := some 34) #[true, true, true, true, true, true, true, true, true, true, true, true, true, true, true, true, true, true, true, true, true, true, true, true, true, true, true, true, true, true, false, false, false] rfl rfl (by kernel_rfl) (by decide) (fun K hK => ?_)
      refine Go.Proofs.YtogcjflneedcfaaDoorW.PrintLast.goes_ Tryd.func76 (by kernel_rfl) rfl #[.int .i64 g.m, .int .i64 r.m] (by rfl) rfl rfl (by (try simp only [List.map_toArray, List.map_cons, List.map_nil]); first | done | rfl) ?_
      refine (fits_any _ _ _ (St.refl hHeld.1.gl)).mono ?_
      rintro e w2 ⟨rfl, rfl⟩
      refine ⟨_, rfl, ?_⟩
      refine hK.out _ _ hHeld (fun hHeld => ?_)
      clear hK K
      refine Go.Proofs.YtogcjflneedcfaaDoorW.PrintLast.norm_ (a' := ?_) ?_ ?_
      rotate_left
      · show Act.put _ (some 34) _ = _
        simp only [Act.put, List.setIfInBounds_toArray, List.set_cons_zero, List.set_cons_succ, Go.Proofs.YtogcjflneedcfaaDoorW.PrintLast.i64_w, Go.Proofs.YtogcjflneedcfaaDoorW.PrintLast.i32_w]
        rfl
      refine Go.Proofs.YtogcjflneedcfaaDoorW.PrintLast.pure_ (i := 30) (N := some 35) (v := ?_) (a' := ?_) #[true, true, true, true, true, true, true, true, true, true, true, true, true, true, true, true, true, true, true, true, true, true, true, true, true, true, true, true, true, true, true, false, false] rfl rfl (by kernel_rfl) (fun _ _ _ h => h) (Or.inl ⟨by rfl, ?_⟩) ?_ ?_
      rotate_left
      · intro w'
        go_simp
        with_reducible rfl
      rotate_left
      · simp only [Act.put, List.setIfInBounds_toArray, List.set_cons_zero, List.set_cons_succ, Go.Proofs.YtogcjflneedcfaaDoorW.PrintLast.i64_w, Go.Proofs.YtogcjflneedcfaaDoorW.PrintLast.i32_w]
        rfl
      refine Go.Proofs.YtogcjflneedcfaaDoorW.PrintLast.pure_ (i := 31) (N := some 36) (v := ?_) (a' := ?_) #[true, true, true, true, true, true, true, true, true, true, true, true, true, true, true, true, true, true, true, true, true, true, true, true, true, true, true, true, true, true, true, true, false] rfl rfl (by kernel_rfl) (fun _ _ _ h => h) (Or.inl ⟨by rfl, ?_⟩) ?_ ?_
      rotate_left
      · intro w'
        go_simp
        with_reducible rfl
      rotate_left
      · simp only [Act.put, List.setIfInBounds_toArray, List.set_cons_zero, List.set_cons_succ, Go.Proofs.YtogcjflneedcfaaDoorW.PrintLast.i64_w, Go.Proofs.YtogcjflneedcfaaDoorW.PrintLast.i32_w]
        rfl
      refine Go.Proofs.YtogcjflneedcfaaDoorW.PrintLast.pure_ (i := 32) (N := some 4) (v := ?_) (a' := ?_) #[true, true, true, true, true, true, true, true, true, true, true, true, true, true, true, true, true, true, true, true, true, true, true, true, true, true, true, true, true, true, true, true, true] rfl rfl (by kernel_rfl) (fun _ _ _ h => h) (Or.inl ⟨by rfl, ?_⟩) ?_ ?_
      rotate_left
      · intro w'
        go_simp
        with_reducible rfl
      rotate_left
      · simp only [Act.put, List.setIfInBounds_toArray, List.set_cons_zero, List.set_cons_succ, Go.Proofs.YtogcjflneedcfaaDoorW.PrintLast.i64_w, Go.Proofs.YtogcjflneedcfaaDoorW.PrintLast.i32_w]
        rfl
      refine Go.Proofs.YtogcjflneedcfaaDoorW.PrintLast.done_ (by kernel_rfl) ?_
      go_wp2
      go_ret
      exact ⟨rfl, hHeld.1⟩
end Lk
end Go.Proofs.YtogcjflneedcfaaDoor

namespace Go.Proofs.YtogcjflneedcfaaDoor
open Go.RowKit Md
set_option linter.unusedVariables false
set_option linter.unusedSimpArgs false
namespace Lk
theorem held_h {w v v' : World} {p : Nat} {g : Rq} {o : Ob} {gb : Bool} (k : St v v') (h : St w v ∧ v.cell? ⟨p, 0, none⟩ = some (.int .i64 g.tx) ∧ v.cell? ⟨p, 1, none⟩ = some (.int .i64 g.o.s) ∧ v.cell? ⟨p, 2, none⟩ = some (.string g.o.t) ∧ v.cell? ⟨p, 3, none⟩ = some (.string g.o.l) ∧ v.cell? ⟨p, 4, none⟩ = some (.string g.o.u) ∧ v.cell? ⟨p, 5, none⟩ = some (.bool g.o.e) ∧ v.cell? ⟨p, 6, none⟩ = some (.int .i64 g.m) ∧ v.cell? ⟨p, 7, none⟩ = some (.bool gb) ∧ v.cell? ⟨w.heap.size, 0, none⟩ = some (.int .i64 o.s) ∧ v.cell? ⟨w.heap.size, 1, none⟩ = some (.string o.t) ∧ v.cell? ⟨w.heap.size, 2, none⟩ = some (.string o.l) ∧ v.cell? ⟨w.heap.size, 3, none⟩ = some (.string o.u) ∧ v.cell? ⟨w.heap.size, 4, none⟩ = some (.bool o.e)) : St w v' ∧ v'.cell? ⟨p, 0, none⟩ = some (.int .i64 g.tx) ∧ v'.cell? ⟨p, 1, none⟩ = some (.int .i64 g.o.s) ∧ v'.cell? ⟨p, 2, none⟩ = some (.string g.o.t) ∧ v'.cell? ⟨p, 3, none⟩ = some (.string g.o.l) ∧ v'.cell? ⟨p, 4, none⟩ = some (.string g.o.u) ∧ v'.cell? ⟨p, 5, none⟩ = some (.bool g.o.e) ∧ v'.cell? ⟨p, 6, none⟩ = some (.int .i64 g.m) ∧ v'.cell? ⟨p, 7, none⟩ = some (.bool gb) ∧ v'.cell? ⟨w.heap.size, 0, none⟩ = some (.int .i64 o.s) ∧ v'.cell? ⟨w.heap.size, 1, none⟩ = some (.string o.t) ∧ v'.cell? ⟨w.heap.size, 2, none⟩ = some (.string o.l) ∧ v'.cell? ⟨w.heap.size, 3, none⟩ = some (.string o.u) ∧ v'.cell? ⟨w.heap.size, 4, none⟩ = some (.bool o.e) := by
  obtain ⟨ss, q0, q1, q2, q3, q4, q5, q6, q7, q8, q9, q10, q11, q12⟩ := h
  exact ⟨ss.to k, (k.b.cell (World.block_lt_of_cell? v _ q0)).trans q0, (k.b.cell (World.block_lt_of_cell? v _ q1)).trans q1, (k.b.cell (World.block_lt_of_cell? v _ q2)).trans q2, (k.b.cell (World.block_lt_of_cell? v _ q3)).trans q3, (k.b.cell (World.block_lt_of_cell? v _ q4)).trans q4, (k.b.cell (World.block_lt_of_cell? v _ q5)).trans q5, (k.b.cell (World.block_lt_of_cell? v _ q6)).trans q6, (k.b.cell (World.block_lt_of_cell? v _ q7)).trans q7, (k.b.cell (World.block_lt_of_cell? v _ q8)).trans q8, (k.b.cell (World.block_lt_of_cell? v _ q9)).trans q9, (k.b.cell (World.block_lt_of_cell? v _ q10)).trans q10, (k.b.cell (World.block_lt_of_cell? v _ q11)).trans q11, (k.b.cell (World.block_lt_of_cell? v _ q12)).trans q12⟩

set_option maxHeartbeats 4000000 in
set_option maxRecDepth 100000 in
theorem holds_any (p : Nat) (g : Rq) (tx : Int) (o : Ob) (m : Int) (w : World) (gl : Gl w) (hp : IsRq w p g) : Calls Tryd.prog 41 #[ptr p, .int .i64 tx, .agg #[.int .i64 o.s, .string o.t, .string o.l, .string o.u, .bool o.e], .int .i64 m] w fun e w' => e = .returned (.bool (holds g tx o m)) ∧ St w w' := by
  obtain ⟨e0, e1, e2, e3, e4, e5, e6, e7, e8⟩ := (hp.below ((Below.refl _ w).alloc (Nat.le_refl _) (.cells #[.int .i64 o.s, .string o.t, .string o.l, .string o.u, .bool o.e] 30))).cells
  have bx : (w.alloc (.cells #[.int .i64 o.s, .string o.t, .string o.l, .string o.u, .bool o.e] 30)).heap[w.heap.size]? = some (.cells #[.int .i64 o.s, .string o.t, .string o.l, .string o.u, .bool o.e] 30 (0, 0)) := new_at w _
  have x0 : (w.alloc (.cells #[.int .i64 o.s, .string o.t, .string o.l, .string o.u, .bool o.e] 30)).cell? ⟨w.heap.size, 0, none⟩ = some (.int .i64 o.s) := (blk_cell bx 0).trans rfl
  have x1 : (w.alloc (.cells #[.int .i64 o.s, .string o.t, .string o.l, .string o.u, .bool o.e] 30)).cell? ⟨w.heap.size, 1, none⟩ = some (.string o.t) := (blk_cell bx 1).trans rfl
  have x2 : (w.alloc (.cells #[.int .i64 o.s, .string o.t, .string o.l, .string o.u, .bool o.e] 30)).cell? ⟨w.heap.size, 2, none⟩ = some (.string o.l) := (blk_cell bx 2).trans rfl
  have x3 : (w.alloc (.cells #[.int .i64 o.s, .string o.t, .string o.l, .string o.u, .bool o.e] 30)).cell? ⟨w.heap.size, 3, none⟩ = some (.string o.u) := (blk_cell bx 3).trans rfl
  have x4 : (w.alloc (.cells #[.int .i64 o.s, .string o.t, .string o.l, .string o.u, .bool o.e] 30)).cell? ⟨w.heap.size, 4, none⟩ = some (.bool o.e) := (blk_cell bx 4).trans rfl
  clear hp bx e8
  unfold ptr holds
  cases hg : g.g
  · rw [hg] at e7
    rw [Bool.false_and, Bool.false_and, Bool.false_and]
    go_enter Tryd.func41, Tryd.ntmps41
    go_wp2
    refine Go.Proofs.YtogcjflneedcfaaDoorW.PrintLast.start_ (n := 29) (S := fun v => St w v ∧ v.cell? ⟨p, 0, none⟩ = some (.int .i64 g.tx) ∧ v.cell? ⟨p, 1, none⟩ = some (.int .i64 g.o.s) ∧ v.cell? ⟨p, 2, none⟩ = some (.string g.o.t) ∧ v.cell? ⟨p, 3, none⟩ = some (.string g.o.l) ∧ v.cell? ⟨p, 4, none⟩ = some (.string g.o.u) ∧ v.cell? ⟨p, 5, none⟩ = some (.bool g.o.e) ∧ v.cell? ⟨p, 6, none⟩ = some (.int .i64 g.m) ∧ v.cell? ⟨p, 7, none⟩ = some (.bool false) ∧ v.cell? ⟨w.heap.size, 0, none⟩ = some (.int .i64 o.s) ∧ v.cell? ⟨w.heap.size, 1, none⟩ = some (.string o.t) ∧ v.cell? ⟨w.heap.size, 2, none⟩ = some (.string o.l) ∧ v.cell? ⟨w.heap.size, 3, none⟩ = some (.string o.u) ∧ v.cell? ⟨w.heap.size, 4, none⟩ = some (.bool o.e)) (ds := [28]) #[false, false, false, false, false, false, false, false, false, false, false, false, false, false, false, false, false, false, false, false, false, false, false, false, false, false, false, false, false] (by kernel_rfl) rfl rfl ⟨((St.refl gl).alloc _).drew, e0, e1, e2, e3, e4, e5, e6, e7, x0, x1, x2, x3, x4⟩ (fun hHeld => ?_)
    refine Go.Proofs.YtogcjflneedcfaaDoorW.PrintLast.pure_ (i := 0) (N := some 9) (v := ?_) (a' := ?_) #[true, false, false, false, false, false, false, false, false, false, false, false, false, false, false, false, false, false, false, false, false, false, false, false, false, false, false, false, false] rfl rfl (by kernel_rfl) (fun _ _ _ h => h) (Or.inl ⟨by rfl, ?_⟩) ?_ ?_
    rotate_left
    · intro w'
      go_simp
      with_reducible rfl
    rotate_left
    · simp only [Act.put, List.setIfInBounds_toArray, List.set_cons_zero, List.set_cons_succ, Go.Proofs.YtogcjflneedcfaaDoorW.PrintLast.i64_w, Go.Proofs.YtogcjflneedcfaaDoorW.PrintLast.i32_w]
      rfl
    refine Go.Proofs.YtogcjflneedcfaaDoorW.PrintLast.pure_ (i := 1) (N := some 10) (v := ?_) (a' := ?_) #[true, true, false, false, false, false, false, false, false, false, false, false, false, false, false, false, false, false, false, false, false, false, false, false, false, false, false, false, false] rfl rfl (by kernel_rfl) (fun _ _ _ h => h) (Or.inl ⟨by rfl, ?_⟩) ?_ ?_
    rotate_left
    · intro w'
      go_simp
      with_reducible rfl
    rotate_left
    · simp only [Act.put, List.setIfInBounds_toArray, List.set_cons_zero, List.set_cons_succ, Go.Proofs.YtogcjflneedcfaaDoorW.PrintLast.i64_w, Go.Proofs.YtogcjflneedcfaaDoorW.PrintLast.i32_w]
      rfl
    refine Go.Proofs.YtogcjflneedcfaaDoorW.PrintLast.pure_ (i := 2) (N := some 11) (v := ?_) (a' := ?_) #[true, true, true, false, false, false, false, false, false, false, false, false, false, false, false, false, false, false, false, false, false, false, false, false, false, false, false, false, false] rfl rfl (by kernel_rfl) (fun _ _ _ h => h) (Or.inl ⟨by rfl, ?_⟩) ?_ ?_
    rotate_left
    · intro w'
      go_simp
      with_reducible rfl
    rotate_left
    · simp only [Act.put, List.setIfInBounds_toArray, List.set_cons_zero, List.set_cons_succ, Go.Proofs.YtogcjflneedcfaaDoorW.PrintLast.i64_w, Go.Proofs.YtogcjflneedcfaaDoorW.PrintLast.i32_w]
      rfl
    refine Go.Proofs.YtogcjflneedcfaaDoorW.PrintLast.take_ (i := 3) (N := some 12) (v := ?_) (a' := ?_) #[true, true, true, true, false, false, false, false, false, false, false, false, false, false, false, false, false, false, false, false, false, false, false, false, false, false, false, false, false] rfl rfl (by kernel_rfl) (fun _ _ _ h => h) (Or.inl ⟨by rfl, ?_⟩) hHeld ?_ ?_
    rotate_left
    · rintro w' ⟨ss, q0, q1, q2, q3, q4, q5, q6, q7, q8, q9, q10, q11, q12⟩
      go_simp
      with_reducible rfl
    rotate_left
    · simp only [Act.put, List.setIfInBounds_toArray, List.set_cons_zero, List.set_cons_succ, Go.Proofs.YtogcjflneedcfaaDoorW.PrintLast.i64_w, Go.Proofs.YtogcjflneedcfaaDoorW.PrintLast.i32_w]
      rfl
    refine Go.Proofs.YtogcjflneedcfaaDoorW.PrintLast.pure_ (i := 4) (N := some 13) (v := ?_) (a' := ?_) #[true, true, true, true, true, false, false, false, false, false, false, false, false, false, false, false, false, false, false, false, false, false, false, false, false, false, false, false, false] rfl rfl (by kernel_rfl) (fun _ _ _ h => h) (Or.inl ⟨by rfl, ?_⟩) ?_ ?_
    rotate_left
    · intro w'
      go_simp
      with_reducible rfl
    rotate_left
    · simp only [Act.put, List.setIfInBounds_toArray, List.set_cons_zero, List.set_cons_succ, Go.Proofs.YtogcjflneedcfaaDoorW.PrintLast.i64_w, Go.Proofs.YtogcjflneedcfaaDoorW.PrintLast.i32_w]
      rfl
    refine Go.Proofs.YtogcjflneedcfaaDoorW.PrintLast.pure_ (i := 5) (N := some 14) (v := _) (a' := ?_) #[true, true, true, true, true, true, false, false, false, false, false, false, false, false, false, false, false, false, false, false, false, false, false, false, false, false, false, false, false] rfl rfl (by kernel_rfl) (fun _ _ _ h => h) (Or.inr ⟨by rfl, rfl⟩) ?_ ?_
    rotate_left
    · simp only [Act.put, List.setIfInBounds_toArray, List.set_cons_zero, List.set_cons_succ, Go.Proofs.YtogcjflneedcfaaDoorW.PrintLast.i64_w, Go.Proofs.YtogcjflneedcfaaDoorW.PrintLast.i32_w]
      rfl
    refine Go.Proofs.YtogcjflneedcfaaDoorW.PrintLast.pure_ (i := 6) (N := some 15) (v := _) (a' := ?_) #[true, true, true, true, true, true, true, false, false, false, false, false, false, false, false, false, false, false, false, false, false, false, false, false, false, false, false, false, false] rfl rfl (by kernel_rfl) (fun _ _ _ h => h) (Or.inr ⟨by rfl, rfl⟩) ?_ ?_
    rotate_left
    · simp only [Act.put, List.setIfInBounds_toArray, List.set_cons_zero, List.set_cons_succ, Go.Proofs.YtogcjflneedcfaaDoorW.PrintLast.i64_w, Go.Proofs.YtogcjflneedcfaaDoorW.PrintLast.i32_w]
      rfl
    refine Go.Proofs.YtogcjflneedcfaaDoorW.PrintLast.pure_ (i := 7) (N := some 16) (v := _) (a' := ?_) #[true, true, true, true, true, true, true, true, false, false, false, false, false, false, false, false, false, false, false, false, false, false, false, false, false, false, false, false, false] rfl rfl (by kernel_rfl) (fun _ _ _ h => h) (Or.inr ⟨by rfl, rfl⟩) ?_ ?_
    rotate_left
    · simp only [Act.put, List.setIfInBounds_toArray, List.set_cons_zero, List.set_cons_succ, Go.Proofs.YtogcjflneedcfaaDoorW.PrintLast.i64_w, Go.Proofs.YtogcjflneedcfaaDoorW.PrintLast.i32_w]
      rfl
    refine Go.Proofs.YtogcjflneedcfaaDoorW.PrintLast.pure_ (i := 8) (N := some 17) (v := _) (a' := ?_) #[true, true, true, true, true, true, true, true, true, false, false, false, false, false, false, false, false, false, false, false, false, false, false, false, false, false, false, false, false] rfl rfl (by kernel_rfl) (fun _ _ _ h => h) (Or.inr ⟨by rfl, rfl⟩) ?_ ?_
    rotate_left
    · simp only [Act.put, List.setIfInBounds_toArray, List.set_cons_zero, List.set_cons_succ, Go.Proofs.YtogcjflneedcfaaDoorW.PrintLast.i64_w, Go.Proofs.YtogcjflneedcfaaDoorW.PrintLast.i32_w]
      rfl
    refine Go.Proofs.YtogcjflneedcfaaDoorW.PrintLast.pure_ (i := 9) (N := some 18) (v := _) (a' := ?_) #[true, true, true, true, true, true, true, true, true, true, false, false, false, false, false, false, false, false, false, false, false, false, false, false, false, false, false, false, false] rfl rfl (by kernel_rfl) (fun _ _ _ h => h) (Or.inr ⟨by rfl, rfl⟩) ?_ ?_
    rotate_left
    · simp only [Act.put, List.setIfInBounds_toArray, List.set_cons_zero, List.set_cons_succ, Go.Proofs.YtogcjflneedcfaaDoorW.PrintLast.i64_w, Go.Proofs.YtogcjflneedcfaaDoorW.PrintLast.i32_w]
      rfl
    refine Go.Proofs.YtogcjflneedcfaaDoorW.PrintLast.pure_ (i := 10) (N := some 19) (v := _) (a' := ?_) #[true, true, true, true, true, true, true, true, true, true, true, false, false, false, false, false, false, false, false, false, false, false, false, false, false, false, false, false, false] rfl rfl (by kernel_rfl) (fun _ _ _ h => h) (Or.inr ⟨by rfl, rfl⟩) ?_ ?_
    rotate_left
    · simp only [Act.put, List.setIfInBounds_toArray, List.set_cons_zero, List.set_cons_succ, Go.Proofs.YtogcjflneedcfaaDoorW.PrintLast.i64_w, Go.Proofs.YtogcjflneedcfaaDoorW.PrintLast.i32_w]
      rfl
    refine Go.Proofs.YtogcjflneedcfaaDoorW.PrintLast.pure_ (i := 11) (N := some 20) (v := ?_) (a' := ?_) #[true, true, true, true, true, true, true, true, true, true, true, true, false, false, false, false, false, false, false, false, false, false, false, false, false, false, false, false, false] rfl rfl (by kernel_rfl) (fun _ _ _ h => h) (Or.inl ⟨by rfl, ?_⟩) ?_ ?_
    rotate_left
    · intro w'
      go_simp
      with_reducible rfl
    rotate_left
    · simp only [Act.put, List.setIfInBounds_toArray, List.set_cons_zero, List.set_cons_succ, Go.Proofs.YtogcjflneedcfaaDoorW.PrintLast.i64_w, Go.Proofs.YtogcjflneedcfaaDoorW.PrintLast.i32_w]
      rfl
    refine Go.Proofs.YtogcjflneedcfaaDoorW.PrintLast.pure_ (i := 12) (N := some 21) (v := ?_) (a' := ?_) #[true, true, true, true, true, true, true, true, true, true, true, true, true, false, false, false, false, false, false, false, false, false, false, false, false, false, false, false, false] rfl rfl (by kernel_rfl) (fun _ _ _ h => h) (Or.inl ⟨by rfl, ?_⟩) ?_ ?_
    rotate_left
    · intro w'
      go_simp
      with_reducible rfl
    rotate_left
    · simp only [Act.put, List.setIfInBounds_toArray, List.set_cons_zero, List.set_cons_succ, Go.Proofs.YtogcjflneedcfaaDoorW.PrintLast.i64_w, Go.Proofs.YtogcjflneedcfaaDoorW.PrintLast.i32_w]
      rfl
    refine Go.Proofs.YtogcjflneedcfaaDoorW.PrintLast.pure_ (i := 13) (N := some 22) (v := _) (a' := ?_) #[true, true, true, true, true, true, true, true, true, true, true, true, true, true, false, false, false, false, false, false, false, false, false, false, false, false, false, false, false] rfl rfl (by kernel_rfl) (fun _ _ _ h => h) (Or.inr ⟨by rfl, rfl⟩) ?_ ?_
    rotate_left
    · simp only [Act.put, List.setIfInBounds_toArray, List.set_cons_zero, List.set_cons_succ, Go.Proofs.YtogcjflneedcfaaDoorW.PrintLast.i64_w, Go.Proofs.YtogcjflneedcfaaDoorW.PrintLast.i32_w]
      rfl
    refine Go.Proofs.YtogcjflneedcfaaDoorW.PrintLast.pure_ (i := 14) (N := some 23) (v := _) (a' := ?_) #[true, true, true, true, true, true, true, true, true, true, true, true, true, true, true, false, false, false, false, false, false, false, false, false, false, false, false, false, false] rfl rfl (by kernel_rfl) (fun _ _ _ h => h) (Or.inr ⟨by rfl, rfl⟩) ?_ ?_
    rotate_left
    · simp only [Act.put, List.setIfInBounds_toArray, List.set_cons_zero, List.set_cons_succ, Go.Proofs.YtogcjflneedcfaaDoorW.PrintLast.i64_w, Go.Proofs.YtogcjflneedcfaaDoorW.PrintLast.i32_w]
      rfl
    refine Go.Proofs.YtogcjflneedcfaaDoorW.PrintLast.pure_ (i := 15) (N := some 24) (v := _) (a' := ?_) #[true, true, true, true, true, true, true, true, true, true, true, true, true, true, true, true, false, false, false, false, false, false, false, false, false, false, false, false, false] rfl rfl (by kernel_rfl) (fun _ _ _ h => h) (Or.inr ⟨by rfl, rfl⟩) ?_ ?_
    rotate_left
    · simp only [Act.put, List.setIfInBounds_toArray, List.set_cons_zero, List.set_cons_succ, Go.Proofs.YtogcjflneedcfaaDoorW.PrintLast.i64_w, Go.Proofs.YtogcjflneedcfaaDoorW.PrintLast.i32_w]
      rfl
    refine Go.Proofs.YtogcjflneedcfaaDoorW.PrintLast.pure_ (i := 16) (N := some 25) (v := _) (a' := ?_) #[true, true, true, true, true, true, true, true, true, true, true, true, true, true, true, true, true, false, false, false, false, false, false, false, false, false, false, false, false] rfl rfl (by kernel_rfl) (fun _ _ _ h => h) (Or.inr ⟨by rfl, rfl⟩) ?_ ?_
    rotate_left
    · simp only [Act.put, List.setIfInBounds_toArray, List.set_cons_zero, List.set_cons_succ, Go.Proofs.YtogcjflneedcfaaDoorW.PrintLast.i64_w, Go.Proofs.YtogcjflneedcfaaDoorW.PrintLast.i32_w]
      rfl
    refine Go.Proofs.YtogcjflneedcfaaDoorW.PrintLast.pure_ (i := 17) (N := some 26) (v := _) (a' := ?_) #[true, true, true, true, true, true, true, true, true, true, true, true, true, true, true, true, true, true, false, false, false, false, false, false, false, false, false, false, false] rfl rfl (by kernel_rfl) (fun _ _ _ h => h) (Or.inr ⟨by rfl, rfl⟩) ?_ ?_
    rotate_left
    · simp only [Act.put, List.setIfInBounds_toArray, List.set_cons_zero, List.set_cons_succ, Go.Proofs.YtogcjflneedcfaaDoorW.PrintLast.i64_w, Go.Proofs.YtogcjflneedcfaaDoorW.PrintLast.i32_w]
      rfl
    refine Go.Proofs.YtogcjflneedcfaaDoorW.PrintLast.pure_ (i := 18) (N := some 27) (v := _) (a' := ?_) #[true, true, true, true, true, true, true, true, true, true, true, true, true, true, true, true, true, true, true, false, false, false, false, false, false, false, false, false, false] rfl rfl (by kernel_rfl) (fun _ _ _ h => h) (Or.inr ⟨by rfl, rfl⟩) ?_ ?_
    rotate_left
    · simp only [Act.put, List.setIfInBounds_toArray, List.set_cons_zero, List.set_cons_succ, Go.Proofs.YtogcjflneedcfaaDoorW.PrintLast.i64_w, Go.Proofs.YtogcjflneedcfaaDoorW.PrintLast.i32_w]
      rfl
    refine Go.Proofs.YtogcjflneedcfaaDoorW.PrintLast.pure_ (i := 19) (N := some 28) (v := ?_) (a' := ?_) #[true, true, true, true, true, true, true, true, true, true, true, true, true, true, true, true, true, true, true, true, false, false, false, false, false, false, false, false, false] rfl rfl (by kernel_rfl) (fun _ _ _ h => h) (Or.inl ⟨by rfl, ?_⟩) ?_ ?_
    rotate_left
    · intro w'
      go_simp
      with_reducible rfl
    rotate_left
    · simp only [Act.put, List.setIfInBounds_toArray, List.set_cons_zero, List.set_cons_succ, Go.Proofs.YtogcjflneedcfaaDoorW.PrintLast.i64_w, Go.Proofs.YtogcjflneedcfaaDoorW.PrintLast.i32_w]
      rfl
    refine Go.Proofs.YtogcjflneedcfaaDoorW.PrintLast.pure_ (i := 20) (N := some 29) (v := ?_) (a' := ?_) #[true, true, true, true, true, true, true, true, true, true, true, true, true, true, true, true, true, true, true, true, true, false, false, false, false, false, false, false, false] rfl rfl (by kernel_rfl) (fun _ _ _ h => h) (Or.inl ⟨by rfl, ?_⟩) ?_ ?_
    rotate_left
    · intro w'
      go_simp
      with_reducible rfl
    rotate_left
    · simp only [Act.put, List.setIfInBounds_toArray, List.set_cons_zero, List.set_cons_succ, Go.Proofs.YtogcjflneedcfaaDoorW.PrintLast.i64_w, Go.Proofs.YtogcjflneedcfaaDoorW.PrintLast.i32_w]
      rfl
    refine Go.Proofs.YtogcjflneedcfaaDoorW.PrintLast.pure_ (i := 21) (N := some 30) (v := _) (a' := ?_) #[true, true, true, true, true, true, true, true, true, true, true, true, true, true, true, true, true, true, true, true, true, true, false, false, false, false, false, false, false] rfl rfl (by kernel_rfl) (fun _ _ _ h => h) (Or.inr ⟨by rfl, rfl⟩) ?_ ?_
    rotate_left
    · simp only [Act.put, List.setIfInBounds_toArray, List.set_cons_zero, List.set_cons_succ, Go.Proofs.YtogcjflneedcfaaDoorW.PrintLast.i64_w, Go.Proofs.YtogcjflneedcfaaDoorW.PrintLast.i32_w]
      rfl
    refine Go.Proofs.YtogcjflneedcfaaDoorW.PrintLast.pure_ (i := 22) (N := some 31) (v := _) (a' := ?_) #[true, true, true, true, true, true, true, true, true, true, true, true, true, true, true, true, true, true, true, true, true, true, true, false, false, false, false, false, false] rfl rfl (by kernel_rfl) (fun _ _ _ h => h) (Or.inr ⟨by rfl, rfl⟩) ?_ ?_
    rotate_left
    · simp only [Act.put, List.setIfInBounds_toArray, List.set_cons_zero, List.set_cons_succ, Go.Proofs.YtogcjflneedcfaaDoorW.PrintLast.i64_w, Go.Proofs.YtogcjflneedcfaaDoorW.PrintLast.i32_w]
      rfl
    refine Go.Proofs.YtogcjflneedcfaaDoorW.PrintLast.pure_ (i := 23) (N := some 32) (v := _) (a' := ?_) #[true, true, true, true, true, true, true, true, true, true, true, true, true, true, true, true, true, true, true, true, true, true, true, true, false, false, false, false, false] rfl rfl (by kernel_rfl) (fun _ _ _ h => h) (Or.inr ⟨by rfl, rfl⟩) ?_ ?_
    rotate_left
    · simp only [Act.put, List.setIfInBounds_toArray, List.set_cons_zero, List.set_cons_succ, Go.Proofs.YtogcjflneedcfaaDoorW.PrintLast.i64_w, Go.Proofs.YtogcjflneedcfaaDoorW.PrintLast.i32_w]
      rfl
    refine Go.Proofs.YtogcjflneedcfaaDoorW.PrintLast.pure_ (i := 24) (N := some 33) (v := _) (a' := ?_) #[true, true, true, true, true, true, true, true, true, true, true, true, true, true, true, true, true, true, true, true, true, true, true, true, true, false, false, false, false] rfl rfl (by kernel_rfl) (fun _ _ _ h => h) (Or.inr ⟨by rfl, rfl⟩) ?_ ?_
    rotate_left
    · simp only [Act.put, List.setIfInBounds_toArray, List.set_cons_zero, List.set_cons_succ, Go.Proofs.YtogcjflneedcfaaDoorW.PrintLast.i64_w, Go.Proofs.YtogcjflneedcfaaDoorW.PrintLast.i32_w]
      rfl
    refine Go.Proofs.YtogcjflneedcfaaDoorW.PrintLast.pure_ (i := 25) (N := some 34) (v := _) (a' := ?_) #[true, true, true, true, true, true, true, true, true, true, true, true, true, true, true, true, true, true, true, true, true, true, true, true, true, true, false, false, false] rfl rfl (by kernel_rfl) (fun _ _ _ h => h) (Or.inr ⟨by rfl, rfl⟩) ?_ ?_
    rotate_left
    · simp only [Act.put, List.setIfInBounds_toArray, List.set_cons_zero, List.set_cons_succ, Go.Proofs.YtogcjflneedcfaaDoorW.PrintLast.i64_w, Go.Proofs.YtogcjflneedcfaaDoorW.PrintLast.i32_w]
      rfl
    refine Go.Proofs.YtogcjflneedcfaaDoorW.PrintLast.pure_ (i := 26) (N := some 35) (v := _) (a' := ?_) #[true, true, true, true, true, true, true, true, true, true, true, true, true, true, true, true, true, true, true, true, true, true, true, true, true, true, true, false, false] rfl rfl (by kernel_rfl) (fun _ _ _ h => h) (Or.inr ⟨by rfl, rfl⟩) ?_ ?_
    rotate_left
    · simp only [Act.put, List.setIfInBounds_toArray, List.set_cons_zero, List.set_cons_succ, Go.Proofs.YtogcjflneedcfaaDoorW.PrintLast.i64_w, Go.Proofs.YtogcjflneedcfaaDoorW.PrintLast.i32_w]
      rfl
    refine Go.Proofs.YtogcjflneedcfaaDoorW.PrintLast.pure_ (i := 27) (N := some 36) (v := ?_) (a' := ?_) #[true, true, true, true, true, true, true, true, true, true, true, true, true, true, true, true, true, true, true, true, true, true, true, true, true, true, true, true, false] rfl rfl (by kernel_rfl) (fun _ _ _ h => h) (Or.inl ⟨by rfl, ?_⟩) ?_ ?_
    rotate_left
    · intro w'
      go_simp
      with_reducible rfl
    rotate_left
    · simp only [Act.put, List.setIfInBounds_toArray, List.set_cons_zero, List.set_cons_succ, Go.Proofs.YtogcjflneedcfaaDoorW.PrintLast.i64_w, Go.Proofs.YtogcjflneedcfaaDoorW.PrintLast.i32_w]
      rfl
    refine Go.Proofs.YtogcjflneedcfaaDoorW.PrintLast.pure_ (i := 28) (N := some 8) (v := ?_) (a' := ?_) #[true, true, true, true, true, true, true, true, true, true, true, true, true, true, true, true, true, true, true, true, true, true, true, true, true, true, true, true, true] rfl rfl (by kernel_rfl) (fun _ _ _ h => h) (Or.inl ⟨by rfl, ?_⟩) ?_ ?_
    rotate_left
    · intro w'
      go_simp
      with_reducible rfl
    rotate_left
    · simp only [Act.put, List.setIfInBounds_toArray, List.set_cons_zero, List.set_cons_succ, Go.Proofs.YtogcjflneedcfaaDoorW.PrintLast.i64_w, Go.Proofs.YtogcjflneedcfaaDoorW.PrintLast.i32_w]
      rfl
    refine Go.Proofs.YtogcjflneedcfaaDoorW.PrintLast.done_ (by kernel_rfl) ?_
    go_wp2
    go_ret
    exact ⟨rfl, hHeld.1⟩
  · rw [hg] at e7
    rw [Bool.true_and]
    by_cases h1 : g.tx = tx
    · have h2 : (g.tx == tx) = true := by simpa using h1
      have h3 : decide (g.tx = tx) = true := decide_eq_true h1
      rw [h2, Bool.true_and]
      cases hm : withB o.s o.t o.l o.u o.e g.o.s g.o.t g.o.l g.o.u g.o.e
      · rw [Bool.false_and]
        go_enter Tryd.func41, Tryd.ntmps41
        go_wp2
        refine Go.Proofs.YtogcjflneedcfaaDoorW.PrintLast.start_ (n := 29) (S := fun v => St w v ∧ v.cell? ⟨p, 0, none⟩ = some (.int .i64 g.tx) ∧ v.cell? ⟨p, 1, none⟩ = some (.int .i64 g.o.s) ∧ v.cell? ⟨p, 2, none⟩ = some (.string g.o.t) ∧ v.cell? ⟨p, 3, none⟩ = some (.string g.o.l) ∧ v.cell? ⟨p, 4, none⟩ = some (.string g.o.u) ∧ v.cell? ⟨p, 5, none⟩ = some (.bool g.o.e) ∧ v.cell? ⟨p, 6, none⟩ = some (.int .i64 g.m) ∧ v.cell? ⟨p, 7, none⟩ = some (.bool true) ∧ v.cell? ⟨w.heap.size, 0, none⟩ = some (.int .i64 o.s) ∧ v.cell? ⟨w.heap.size, 1, none⟩ = some (.string o.t) ∧ v.cell? ⟨w.heap.size, 2, none⟩ = some (.string o.l) ∧ v.cell? ⟨w.heap.size, 3, none⟩ = some (.string o.u) ∧ v.cell? ⟨w.heap.size, 4, none⟩ = some (.bool o.e)) (ds := [28]) #[false, false, false, false, false, false, false, false, false, false, false, false, false, false, false, false, false, false, false, false, false, false, false, false, false, false, false, false, false] (by kernel_rfl) rfl rfl ⟨((St.refl gl).alloc _).drew, e0, e1, e2, e3, e4, e5, e6, e7, x0, x1, x2, x3, x4⟩ (fun hHeld => ?_)
        refine Go.Proofs.YtogcjflneedcfaaDoorW.PrintLast.pure_ (i := 0) (N := some 9) (v := ?_) (a' := ?_) #[true, false, false, false, false, false, false, false, false, false, false, false, false, false, false, false, false, false, false, false, false, false, false, false, false, false, false, false, false] rfl rfl (by kernel_rfl) (fun _ _ _ h => h) (Or.inl ⟨by rfl, ?_⟩) ?_ ?_
        rotate_left
        · intro w'
          go_simp
          with_reducible rfl
        rotate_left
        · simp only [Act.put, List.setIfInBounds_toArray, List.set_cons_zero, List.set_cons_succ, Go.Proofs.YtogcjflneedcfaaDoorW.PrintLast.i64_w, Go.Proofs.YtogcjflneedcfaaDoorW.PrintLast.i32_w]
          rfl
        refine Go.Proofs.YtogcjflneedcfaaDoorW.PrintLast.pure_ (i := 1) (N := some 10) (v := ?_) (a' := ?_) #[true, true, false, false, false, false, false, false, false, false, false, false, false, false, false, false, false, false, false, false, false, false, false, false, false, false, false, false, false] rfl rfl (by kernel_rfl) (fun _ _ _ h => h) (Or.inl ⟨by rfl, ?_⟩) ?_ ?_
        rotate_left
        · intro w'
          go_simp
          with_reducible rfl
        rotate_left
        · simp only [Act.put, List.setIfInBounds_toArray, List.set_cons_zero, List.set_cons_succ, Go.Proofs.YtogcjflneedcfaaDoorW.PrintLast.i64_w, Go.Proofs.YtogcjflneedcfaaDoorW.PrintLast.i32_w]
          rfl
        refine Go.Proofs.YtogcjflneedcfaaDoorW.PrintLast.pure_ (i := 2) (N := some 11) (v := ?_) (a' := ?_) #[true, true, true, false, false, false, false, false, false, false, false, false, false, false, false, false, false, false, false, false, false, false, false, false, false, false, false, false, false] rfl rfl (by kernel_rfl) (fun _ _ _ h => h) (Or.inl ⟨by rfl, ?_⟩) ?_ ?_
        rotate_left
        · intro w'
          go_simp
          with_reducible rfl
        rotate_left
        · simp only [Act.put, List.setIfInBounds_toArray, List.set_cons_zero, List.set_cons_succ, Go.Proofs.YtogcjflneedcfaaDoorW.PrintLast.i64_w, Go.Proofs.YtogcjflneedcfaaDoorW.PrintLast.i32_w]
          rfl
        refine Go.Proofs.YtogcjflneedcfaaDoorW.PrintLast.take_ (i := 3) (N := some 12) (v := ?_) (a' := ?_) #[true, true, true, true, false, false, false, false, false, false, false, false, false, false, false, false, false, false, false, false, false, false, false, false, false, false, false, false, false] rfl rfl (by kernel_rfl) (fun _ _ _ h => h) (Or.inl ⟨by rfl, ?_⟩) hHeld ?_ ?_
        rotate_left
        · rintro w' ⟨ss, q0, q1, q2, q3, q4, q5, q6, q7, q8, q9, q10, q11, q12⟩
          go_simp
          with_reducible rfl
        rotate_left
        · simp only [Act.put, List.setIfInBounds_toArray, List.set_cons_zero, List.set_cons_succ, Go.Proofs.YtogcjflneedcfaaDoorW.PrintLast.i64_w, Go.Proofs.YtogcjflneedcfaaDoorW.PrintLast.i32_w]
          rfl
        refine Go.Proofs.YtogcjflneedcfaaDoorW.PrintLast.pure_ (i := 4) (N := some 13) (v := ?_) (a' := ?_) #[true, true, true, true, true, false, false, false, false, false, false, false, false, false, false, false, false, false, false, false, false, false, false, false, false, false, false, false, false] rfl rfl (by kernel_rfl) (fun _ _ _ h => h) (Or.inl ⟨by rfl, ?_⟩) ?_ ?_
        rotate_left
        · intro w'
          go_simp
          with_reducible rfl
        rotate_left
        · simp only [Act.put, List.setIfInBounds_toArray, List.set_cons_zero, List.set_cons_succ, Go.Proofs.YtogcjflneedcfaaDoorW.PrintLast.i64_w, Go.Proofs.YtogcjflneedcfaaDoorW.PrintLast.i32_w]
          rfl
        refine Go.Proofs.YtogcjflneedcfaaDoorW.PrintLast.pure_ (i := 5) (N := some 14) (v := ?_) (a' := ?_) #[true, true, true, true, true, true, false, false, false, false, false, false, false, false, false, false, false, false, false, false, false, false, false, false, false, false, false, false, false] rfl rfl (by kernel_rfl) (fun _ _ _ h => h) (Or.inl ⟨by rfl, ?_⟩) ?_ ?_
        rotate_left
        · intro w'
          go_simp
          with_reducible rfl
        rotate_left
        · simp only [Act.put, List.setIfInBounds_toArray, List.set_cons_zero, List.set_cons_succ, Go.Proofs.YtogcjflneedcfaaDoorW.PrintLast.i64_w, Go.Proofs.YtogcjflneedcfaaDoorW.PrintLast.i32_w]
          rfl
        refine Go.Proofs.YtogcjflneedcfaaDoorW.PrintLast.pure_ (i := 6) (N := some 15) (v := ?_) (a' := ?_) #[true, true, true, true, true, true, true, false, false, false, false, false, false, false, false, false, false, false, false, false, false, false, false, false, false, false, false, false, false] rfl rfl (by kernel_rfl) (fun _ _ _ h => h) (Or.inl ⟨by rfl, ?_⟩) ?_ ?_
        rotate_left
        · intro w'
          go_simp
          with_reducible rfl
        rotate_left
        · simp only [Act.put, List.setIfInBounds_toArray, List.set_cons_zero, List.set_cons_succ, Go.Proofs.YtogcjflneedcfaaDoorW.PrintLast.i64_w, Go.Proofs.YtogcjflneedcfaaDoorW.PrintLast.i32_w]
          rfl
        refine Go.Proofs.YtogcjflneedcfaaDoorW.PrintLast.pure_ (i := 7) (N := some 16) (v := ?_) (a' := ?_) #[true, true, true, true, true, true, true, true, false, false, false, false, false, false, false, false, false, false, false, false, false, false, false, false, false, false, false, false, false] rfl rfl (by kernel_rfl) (fun _ _ _ h => h) (Or.inl ⟨by rfl, ?_⟩) ?_ ?_
        rotate_left
        · intro w'
          go_simp
          with_reducible rfl
        rotate_left
        · simp only [Act.put, List.setIfInBounds_toArray, List.set_cons_zero, List.set_cons_succ, Go.Proofs.YtogcjflneedcfaaDoorW.PrintLast.i64_w, Go.Proofs.YtogcjflneedcfaaDoorW.PrintLast.i32_w]
          rfl
        refine Go.Proofs.YtogcjflneedcfaaDoorW.PrintLast.take_ (i := 8) (N := some 17) (v := ?_) (a' := ?_) #[true, true, true, true, true, true, true, true, true, false, false, false, false, false, false, false, false, false, false, false, false, false, false, false, false, false, false, false, false] rfl rfl (by kernel_rfl) (fun _ _ _ h => h) (Or.inl ⟨by rfl, ?_⟩) hHeld ?_ ?_
        rotate_left
        · rintro w' ⟨ss, q0, q1, q2, q3, q4, q5, q6, q7, q8, q9, q10, q11, q12⟩
          go_simp
          with_reducible rfl
        rotate_left
        · simp only [Act.put, List.setIfInBounds_toArray, List.set_cons_zero, List.set_cons_succ, Go.Proofs.YtogcjflneedcfaaDoorW.PrintLast.i64_w, Go.Proofs.YtogcjflneedcfaaDoorW.PrintLast.i32_w]
          rfl
        refine Go.Proofs.YtogcjflneedcfaaDoorW.PrintLast.pure_ (i := 9) (N := some 18) (v := ?_) (a' := ?_) #[true, true, true, true, true, true, true, true, true, true, false, false, false, false, false, false, false, false, false, false, false, false, false, false, false, false, false, false, false] rfl rfl (by kernel_rfl) (fun _ _ _ h => h) (Or.inl ⟨by rfl, ?_⟩) ?_ ?_
        rotate_left
        · intro w'
          go_simp
          with_reducible rfl
        rotate_left
        · simp only [Act.put, List.setIfInBounds_toArray, List.set_cons_zero, List.set_cons_succ, Go.Proofs.YtogcjflneedcfaaDoorW.PrintLast.i64_w, Go.Proofs.YtogcjflneedcfaaDoorW.PrintLast.i32_w]
          rfl
        refine Go.Proofs.YtogcjflneedcfaaDoorW.PrintLast.pure_ (i := 10) (N := some 19) (v := ?_) (a' := ?_) #[true, true, true, true, true, true, true, true, true, true, true, false, false, false, false, false, false, false, false, false, false, false, false, false, false, false, false, false, false] rfl rfl (by kernel_rfl) (fun _ _ _ h => h) (Or.inl ⟨by rfl, ?_⟩) ?_ ?_
        rotate_left
        · intro w'
          go_simp
          with_reducible rfl
        rotate_left
        · simp only [Act.put, List.setIfInBounds_toArray, List.set_cons_zero, List.set_cons_succ, Go.Proofs.YtogcjflneedcfaaDoorW.PrintLast.i64_w, Go.Proofs.YtogcjflneedcfaaDoorW.PrintLast.i32_w]
          rfl
        refine Go.Proofs.YtogcjflneedcfaaDoorW.PrintLast.pure_ (i := 11) (N := some 20) (v := ?_) (a' := ?_) #[true, true, true, true, true, true, true, true, true, true, true, true, false, false, false, false, false, false, false, false, false, false, false, false, false, false, false, false, false] rfl rfl (by kernel_rfl) (fun _ _ _ h => h) (Or.inl ⟨by rfl, ?_⟩) ?_ ?_
        rotate_left
        · intro w'
          go_simp
          with_reducible rfl
        rotate_left
        · simp only [Act.put, List.setIfInBounds_toArray, List.set_cons_zero, List.set_cons_succ, Go.Proofs.YtogcjflneedcfaaDoorW.PrintLast.i64_w, Go.Proofs.YtogcjflneedcfaaDoorW.PrintLast.i32_w]
          rfl
        refine Go.Proofs.YtogcjflneedcfaaDoorW.PrintLast.pure_ (i := 12) (N := some 21) (v := ?_) (a' := ?_) #[true, true, true, true, true, true, true, true, true, true, true, true, true, false, false, false, false, false, false, false, false, false, false, false, false, false, false, false, false] rfl rfl (by kernel_rfl) (fun _ _ _ h => h) (Or.inl ⟨by rfl, ?_⟩) ?_ ?_
        rotate_left
        · intro w'
          go_simp
          with_reducible rfl
        rotate_left
        · simp only [Act.put, List.setIfInBounds_toArray, List.set_cons_zero, List.set_cons_succ, Go.Proofs.YtogcjflneedcfaaDoorW.PrintLast.i64_w, Go.Proofs.YtogcjflneedcfaaDoorW.PrintLast.i32_w]
          rfl
        refine Go.Proofs.YtogcjflneedcfaaDoorW.PrintLast.take_ (i := 13) (N := some 22) (v := ?_) (a' := ?_) #[true, true, true, true, true, true, true, true, true, true, true, true, true, true, false, false, false, false, false, false, false, false, false, false, false, false, false, false, false] rfl rfl (by kernel_rfl) (fun _ _ _ h => h) (Or.inl ⟨by rfl, ?_⟩) hHeld ?_ ?_
        rotate_left
        · rintro w' ⟨ss, q0, q1, q2, q3, q4, q5, q6, q7, q8, q9, q10, q11, q12⟩
          go_simp
          with_reducible rfl
        rotate_left
        · simp only [Act.put, List.setIfInBounds_toArray, List.set_cons_zero, List.set_cons_succ, Go.Proofs.YtogcjflneedcfaaDoorW.PrintLast.i64_w, Go.Proofs.YtogcjflneedcfaaDoorW.PrintLast.i32_w]
          rfl
        refine Go.Proofs.YtogcjflneedcfaaDoorW.PrintLast.pure_ (i := 14) (N := some 23) (v := ?_) (a' := ?_) #[true, true, true, true, true, true, true, true, true, true, true, true, true, true, true, false, false, false, false, false, false, false, false, false, false, false, false, false, false] rfl rfl (by kernel_rfl) (fun _ _ _ h => h) (Or.inl ⟨by rfl, ?_⟩) ?_ ?_
        rotate_left
        · intro w'
          go_simp
          with_reducible rfl
        rotate_left
        · simp only [Act.put, List.setIfInBounds_toArray, List.set_cons_zero, List.set_cons_succ, Go.Proofs.YtogcjflneedcfaaDoorW.PrintLast.i64_w, Go.Proofs.YtogcjflneedcfaaDoorW.PrintLast.i32_w]
          rfl
        refine Go.Proofs.YtogcjflneedcfaaDoorW.PrintLast.pure_ (i := 15) (N := some 24) (v := ?_) (a' := ?_) #[true, true, true, true, true, true, true, true, true, true, true, true, true, true, true, true, false, false, false, false, false, false, false, false, false, false, false, false, false] rfl rfl (by kernel_rfl) (fun _ _ _ h => h) (Or.inl ⟨by rfl, ?_⟩) ?_ ?_
        rotate_left
        · intro w'
          go_simp
          with_reducible rfl
        rotate_left
        · simp only [Act.put, List.setIfInBounds_toArray, List.set_cons_zero, List.set_cons_succ, Go.Proofs.YtogcjflneedcfaaDoorW.PrintLast.i64_w, Go.Proofs.YtogcjflneedcfaaDoorW.PrintLast.i32_w]
          rfl
        refine Go.Proofs.YtogcjflneedcfaaDoorW.PrintLast.pure_ (i := 16) (N := some 25) (v := ?_) (a' := ?_) #[true, true, true, true, true, true, true, true, true, true, true, true, true, true, true, true, true, false, false, false, false, false, false, false, false, false, false, false, false] rfl rfl (by kernel_rfl) (fun _ _ _ h => h) (Or.inl ⟨by rfl, ?_⟩) ?_ ?_
        rotate_left
        · intro w'
          go_simp
          with_reducible rfl
        rotate_left
        · simp only [Act.put, List.setIfInBounds_toArray, List.set_cons_zero, List.set_cons_succ, Go.Proofs.YtogcjflneedcfaaDoorW.PrintLast.i64_w, Go.Proofs.YtogcjflneedcfaaDoorW.PrintLast.i32_w]
          rfl
        refine Go.Proofs.YtogcjflneedcfaaDoorW.PrintLast.take_ (i := 17) (N := some 26) (v := ?_) (a' := ?_) #[true, true, true, true, true, true, true, true, true, true, true, true, true, true, true, true, true, true, false, false, false, false, false, false, false, false, false, false, false] rfl rfl (by kernel_rfl) (fun _ _ _ h => h) (Or.inl ⟨by rfl, ?_⟩) hHeld ?_ ?_
        rotate_left
        · rintro w' ⟨ss, q0, q1, q2, q3, q4, q5, q6, q7, q8, q9, q10, q11, q12⟩
          go_simp
          with_reducible rfl
        rotate_left
        · simp only [Act.put, List.setIfInBounds_toArray, List.set_cons_zero, List.set_cons_succ, Go.Proofs.YtogcjflneedcfaaDoorW.PrintLast.i64_w, Go.Proofs.YtogcjflneedcfaaDoorW.PrintLast.i32_w]
          rfl
        refine Go.Proofs.YtogcjflneedcfaaDoorW.PrintLast.one_ (i := 18) (N := some 27) #[true, true, true, true, true, true, true, true, true, true, true, true, true, true, true, true, true, true, true, false, false, false, false, false, false, false, false, false, false] rfl rfl (by kernel_rfl) (by decide) (fun K hK => ?_)
        refine Go.Proofs.YtogcjflneedcfaaDoorW.PrintLast.goes_ Tryd.func61 (by kernel_rfl) rfl #[.agg #[.int .i64 o.s, .string o.t, .string o.l, .string o.u, .bool o.e], .agg #[.int .i64 g.o.s, .string g.o.t, .string g.o.l, .string g.o.u, .bool g.o.e]] (by rfl) rfl rfl (by (try simp only [List.map_toArray, List.map_cons, List.map_nil]); first | done | rfl) ?_
        refine (within_b o g.o _ hm _ hHeld.1.gl).mono ?_
        rintro e w2 ⟨rfl, hb⟩
        refine ⟨_, rfl, ?_⟩
        refine hK.out _ _ (held_h hb hHeld) (fun hHeld => ?_)
        clear hK K
        refine Go.Proofs.YtogcjflneedcfaaDoorW.PrintLast.norm_ (a' := ?_) ?_ ?_
        rotate_left
        · show Act.put _ (some 27) _ = _
          simp only [Act.put, List.setIfInBounds_toArray, List.set_cons_zero, List.set_cons_succ, Go.Proofs.YtogcjflneedcfaaDoorW.PrintLast.i64_w, Go.Proofs.YtogcjflneedcfaaDoorW.PrintLast.i32_w]
          rfl
        refine Go.Proofs.YtogcjflneedcfaaDoorW.PrintLast.pure_ (i := 19) (N := some 28) (v := ?_) (a' := ?_) #[true, true, true, true, true, true, true, true, true, true, true, true, true, true, true, true, true, true, true, true, false, false, false, false, false, false, false, false, false] rfl rfl (by kernel_rfl) (fun _ _ _ h => h) (Or.inl ⟨by rfl, ?_⟩) ?_ ?_
        rotate_left
        · intro w'
          go_simp
          with_reducible rfl
        rotate_left
        · simp only [Act.put, List.setIfInBounds_toArray, List.set_cons_zero, List.set_cons_succ, Go.Proofs.YtogcjflneedcfaaDoorW.PrintLast.i64_w, Go.Proofs.YtogcjflneedcfaaDoorW.PrintLast.i32_w]
          rfl
        refine Go.Proofs.YtogcjflneedcfaaDoorW.PrintLast.pure_ (i := 20) (N := some 29) (v := ?_) (a' := ?_) #[true, true, true, true, true, true, true, true, true, true, true, true, true, true, true, true, true, true, true, true, true, false, false, false, false, false, false, false, false] rfl rfl (by kernel_rfl) (fun _ _ _ h => h) (Or.inl ⟨by rfl, ?_⟩) ?_ ?_
        rotate_left
        · intro w'
          go_simp
          with_reducible rfl
        rotate_left
        · simp only [Act.put, List.setIfInBounds_toArray, List.set_cons_zero, List.set_cons_succ, Go.Proofs.YtogcjflneedcfaaDoorW.PrintLast.i64_w, Go.Proofs.YtogcjflneedcfaaDoorW.PrintLast.i32_w]
          rfl
        refine Go.Proofs.YtogcjflneedcfaaDoorW.PrintLast.pure_ (i := 21) (N := some 30) (v := _) (a' := ?_) #[true, true, true, true, true, true, true, true, true, true, true, true, true, true, true, true, true, true, true, true, true, true, false, false, false, false, false, false, false] rfl rfl (by kernel_rfl) (fun _ _ _ h => h) (Or.inr ⟨by rfl, rfl⟩) ?_ ?_
        rotate_left
        · simp only [Act.put, List.setIfInBounds_toArray, List.set_cons_zero, List.set_cons_succ, Go.Proofs.YtogcjflneedcfaaDoorW.PrintLast.i64_w, Go.Proofs.YtogcjflneedcfaaDoorW.PrintLast.i32_w]
          rfl
        refine Go.Proofs.YtogcjflneedcfaaDoorW.PrintLast.pure_ (i := 22) (N := some 31) (v := _) (a' := ?_) #[true, true, true, true, true, true, true, true, true, true, true, true, true, true, true, true, true, true, true, true, true, true, true, false, false, false, false, false, false] rfl rfl (by kernel_rfl) (fun _ _ _ h => h) (Or.inr ⟨by rfl, rfl⟩) ?_ ?_
        rotate_left
        · simp only [Act.put, List.setIfInBounds_toArray, List.set_cons_zero, List.set_cons_succ, Go.Proofs.YtogcjflneedcfaaDoorW.PrintLast.i64_w, Go.Proofs.YtogcjflneedcfaaDoorW.PrintLast.i32_w]
          rfl
        refine Go.Proofs.YtogcjflneedcfaaDoorW.PrintLast.pure_ (i := 23) (N := some 32) (v := _) (a' := ?_) #[true, true, true, true, true, true, true, true, true, true, true, true, true, true, true, true, true, true, true, true, true, true, true, true, false, false, false, false, false] rfl rfl (by kernel_rfl) (fun _ _ _ h => h) (Or.inr ⟨by rfl, rfl⟩) ?_ ?_
        rotate_left
        · simp only [Act.put, List.setIfInBounds_toArray, List.set_cons_zero, List.set_cons_succ, Go.Proofs.YtogcjflneedcfaaDoorW.PrintLast.i64_w, Go.Proofs.YtogcjflneedcfaaDoorW.PrintLast.i32_w]
          rfl
        refine Go.Proofs.YtogcjflneedcfaaDoorW.PrintLast.pure_ (i := 24) (N := some 33) (v := _) (a' := ?_) #[true, true, true, true, true, true, true, true, true, true, true, true, true, true, true, true, true, true, true, true, true, true, true, true, true, false, false, false, false] rfl rfl (by kernel_rfl) (fun _ _ _ h => h) (Or.inr ⟨by rfl, rfl⟩) ?_ ?_
        rotate_left
        · simp only [Act.put, List.setIfInBounds_toArray, List.set_cons_zero, List.set_cons_succ, Go.Proofs.YtogcjflneedcfaaDoorW.PrintLast.i64_w, Go.Proofs.YtogcjflneedcfaaDoorW.PrintLast.i32_w]
          rfl
        refine Go.Proofs.YtogcjflneedcfaaDoorW.PrintLast.pure_ (i := 25) (N := some 34) (v := _) (a' := ?_) #[true, true, true, true, true, true, true, true, true, true, true, true, true, true, true, true, true, true, true, true, true, true, true, true, true, true, false, false, false] rfl rfl (by kernel_rfl) (fun _ _ _ h => h) (Or.inr ⟨by rfl, rfl⟩) ?_ ?_
        rotate_left
        · simp only [Act.put, List.setIfInBounds_toArray, List.set_cons_zero, List.set_cons_succ, Go.Proofs.YtogcjflneedcfaaDoorW.PrintLast.i64_w, Go.Proofs.YtogcjflneedcfaaDoorW.PrintLast.i32_w]
          rfl
        refine Go.Proofs.YtogcjflneedcfaaDoorW.PrintLast.pure_ (i := 26) (N := some 35) (v := _) (a' := ?_) #[true, true, true, true, true, true, true, true, true, true, true, true, true, true, true, true, true, true, true, true, true, true, true, true, true, true, true, false, false] rfl rfl (by kernel_rfl) (fun _ _ _ h => h) (Or.inr ⟨by rfl, rfl⟩) ?_ ?_
        rotate_left
        · simp only [Act.put, List.setIfInBounds_toArray, List.set_cons_zero, List.set_cons_succ, Go.Proofs.YtogcjflneedcfaaDoorW.PrintLast.i64_w, Go.Proofs.YtogcjflneedcfaaDoorW.PrintLast.i32_w]
          rfl
        refine Go.Proofs.YtogcjflneedcfaaDoorW.PrintLast.pure_ (i := 27) (N := some 36) (v := ?_) (a' := ?_) #[true, true, true, true, true, true, true, true, true, true, true, true, true, true, true, true, true, true, true, true, true, true, true, true, true, true, true, true, false] rfl rfl (by kernel_rfl) (fun _ _ _ h => h) (Or.inl ⟨by rfl, ?_⟩) ?_ ?_
        rotate_left
        · intro w'
          go_simp
          with_reducible rfl
        rotate_left
        · simp only [Act.put, List.setIfInBounds_toArray, List.set_cons_zero, List.set_cons_succ, Go.Proofs.YtogcjflneedcfaaDoorW.PrintLast.i64_w, Go.Proofs.YtogcjflneedcfaaDoorW.PrintLast.i32_w]
          rfl
        refine Go.Proofs.YtogcjflneedcfaaDoorW.PrintLast.pure_ (i := 28) (N := some 8) (v := ?_) (a' := ?_) #[true, true, true, true, true, true, true, true, true, true, true, true, true, true, true, true, true, true, true, true, true, true, true, true, true, true, true, true, true] rfl rfl (by kernel_rfl) (fun _ _ _ h => h) (Or.inl ⟨by rfl, ?_⟩) ?_ ?_
        rotate_left
        · intro w'
          go_simp
          with_reducible rfl
        rotate_left
        · simp only [Act.put, List.setIfInBounds_toArray, List.set_cons_zero, List.set_cons_succ, Go.Proofs.YtogcjflneedcfaaDoorW.PrintLast.i64_w, Go.Proofs.YtogcjflneedcfaaDoorW.PrintLast.i32_w]
          rfl
        refine Go.Proofs.YtogcjflneedcfaaDoorW.PrintLast.done_ (by kernel_rfl) ?_
        go_wp2
        go_ret
        exact ⟨rfl, hHeld.1⟩
      · rw [Bool.true_and]
        go_enter Tryd.func41, Tryd.ntmps41
        go_wp2
        refine Go.Proofs.YtogcjflneedcfaaDoorW.PrintLast.start_ (n := 29) (S := fun v => St w v ∧ v.cell? ⟨p, 0, none⟩ = some (.int .i64 g.tx) ∧ v.cell? ⟨p, 1, none⟩ = some (.int .i64 g.o.s) ∧ v.cell? ⟨p, 2, none⟩ = some (.string g.o.t) ∧ v.cell? ⟨p, 3, none⟩ = some (.string g.o.l) ∧ v.cell? ⟨p, 4, none⟩ = some (.string g.o.u) ∧ v.cell? ⟨p, 5, none⟩ = some (.bool g.o.e) ∧ v.cell? ⟨p, 6, none⟩ = some (.int .i64 g.m) ∧ v.cell? ⟨p, 7, none⟩ = some (.bool true) ∧ v.cell? ⟨w.heap.size, 0, none⟩ = some (.int .i64 o.s) ∧ v.cell? ⟨w.heap.size, 1, none⟩ = some (.string o.t) ∧ v.cell? ⟨w.heap.size, 2, none⟩ = some (.string o.l) ∧ v.cell? ⟨w.heap.size, 3, none⟩ = some (.string o.u) ∧ v.cell? ⟨w.heap.size, 4, none⟩ = some (.bool o.e)) (ds := [28]) #[false, false, false, false, false, false, false, false, false, false, false, false, false, false, false, false, false, false, false, false, false, false, false, false, false, false, false, false, false] (by kernel_rfl) rfl rfl ⟨((St.refl gl).alloc _).drew, e0, e1, e2, e3, e4, e5, e6, e7, x0, x1, x2, x3, x4⟩ (fun hHeld => ?_)
        refine Go.Proofs.YtogcjflneedcfaaDoorW.PrintLast.pure_ (i := 0) (N := some 9) (v := ?_) (a' := ?_) #[true, false, false, false, false, false, false, false, false, false, false, false, false, false, false, false, false, false, false, false, false, false, false, false, false, false, false, false, false] rfl rfl (by kernel_rfl) (fun _ _ _ h => h) (Or.inl ⟨by rfl, ?_⟩) ?_ ?_
        rotate_left
        · intro w'
          go_simp
          with_reducible rfl
        rotate_left
        · simp only [Act.put, List.setIfInBounds_toArray, List.set_cons_zero, List.set_cons_succ, Go.Proofs.YtogcjflneedcfaaDoorW.PrintLast.i64_w, Go.Proofs.YtogcjflneedcfaaDoorW.PrintLast.i32_w]
          rfl
        refine Go.Proofs.YtogcjflneedcfaaDoorW.PrintLast.pure_ (i := 1) (N := some 10) (v := ?_) (a' := ?_) #[true, true, false, false, false, false, false, false, false, false, false, false, false, false, false, false, false, false, false, false, false, false, false, false, false, false, false, false, false] rfl rfl (by kernel_rfl) (fun _ _ _ h => h) (Or.inl ⟨by rfl, ?_⟩) ?_ ?_
        rotate_left
        · intro w'
          go_simp
          with_reducible rfl
        rotate_left
        · simp only [Act.put, List.setIfInBounds_toArray, List.set_cons_zero, List.set_cons_succ, Go.Proofs.YtogcjflneedcfaaDoorW.PrintLast.i64_w, Go.Proofs.YtogcjflneedcfaaDoorW.PrintLast.i32_w]
          rfl
        refine Go.Proofs.YtogcjflneedcfaaDoorW.PrintLast.pure_ (i := 2) (N := some 11) (v := ?_) (a' := ?_) #[true, true, true, false, false, false, false, false, false, false, false, false, false, false, false, false, false, false, false, false, false, false, false, false, false, false, false, false, false] rfl rfl (by kernel_rfl) (fun _ _ _ h => h) (Or.inl ⟨by rfl, ?_⟩) ?_ ?_
        rotate_left
        · intro w'
          go_simp
          with_reducible rfl
        rotate_left
        · simp only [Act.put, List.setIfInBounds_toArray, List.set_cons_zero, List.set_cons_succ, Go.Proofs.YtogcjflneedcfaaDoorW.PrintLast.i64_w, Go.Proofs.YtogcjflneedcfaaDoorW.PrintLast.i32_w]
          rfl
        refine Go.Proofs.YtogcjflneedcfaaDoorW.PrintLast.take_ (i := 3) (N := some 12) (v := ?_) (a' := ?_) #[true, true, true, true, false, false, false, false, false, false, false, false, false, false, false, false, false, false, false, false, false, false, false, false, false, false, false, false, false] rfl rfl (by kernel_rfl) (fun _ _ _ h => h) (Or.inl ⟨by rfl, ?_⟩) hHeld ?_ ?_
        rotate_left
        · rintro w' ⟨ss, q0, q1, q2, q3, q4, q5, q6, q7, q8, q9, q10, q11, q12⟩
          go_simp
          with_reducible rfl
        rotate_left
        · simp only [Act.put, List.setIfInBounds_toArray, List.set_cons_zero, List.set_cons_succ, Go.Proofs.YtogcjflneedcfaaDoorW.PrintLast.i64_w, Go.Proofs.YtogcjflneedcfaaDoorW.PrintLast.i32_w]
          rfl
        refine Go.Proofs.YtogcjflneedcfaaDoorW.PrintLast.pure_ (i := 4) (N := some 13) (v := ?_) (a' := ?_) #[true, true, true, true, true, false, false, false, false, false, false, false, false, false, false, false, false, false, false, false, false, false, false, false, false, false, false, false, false] rfl rfl (by kernel_rfl) (fun _ _ _ h => h) (Or.inl ⟨by rfl, ?_⟩) ?_ ?_
        rotate_left
        · intro w'
          go_simp
          with_reducible rfl
        rotate_left
        · simp only [Act.put, List.setIfInBounds_toArray, List.set_cons_zero, List.set_cons_succ, Go.Proofs.YtogcjflneedcfaaDoorW.PrintLast.i64_w, Go.Proofs.YtogcjflneedcfaaDoorW.PrintLast.i32_w]
          rfl
        refine Go.Proofs.YtogcjflneedcfaaDoorW.PrintLast.pure_ (i := 5) (N := some 14) (v := ?_) (a' := ?_) #[true, true, true, true, true, true, false, false, false, false, false, false, false, false, false, false, false, false, false, false, false, false, false, false, false, false, false, false, false] rfl rfl (by kernel_rfl) (fun _ _ _ h => h) (Or.inl ⟨by rfl, ?_⟩) ?_ ?_
        rotate_left
        · intro w'
          go_simp
          with_reducible rfl
        rotate_left
        · simp only [Act.put, List.setIfInBounds_toArray, List.set_cons_zero, List.set_cons_succ, Go.Proofs.YtogcjflneedcfaaDoorW.PrintLast.i64_w, Go.Proofs.YtogcjflneedcfaaDoorW.PrintLast.i32_w]
          rfl
        refine Go.Proofs.YtogcjflneedcfaaDoorW.PrintLast.pure_ (i := 6) (N := some 15) (v := ?_) (a' := ?_) #[true, true, true, true, true, true, true, false, false, false, false, false, false, false, false, false, false, false, false, false, false, false, false, false, false, false, false, false, false] rfl rfl (by kernel_rfl) (fun _ _ _ h => h) (Or.inl ⟨by rfl, ?_⟩) ?_ ?_
        rotate_left
        · intro w'
          go_simp
          with_reducible rfl
        rotate_left
        · simp only [Act.put, List.setIfInBounds_toArray, List.set_cons_zero, List.set_cons_succ, Go.Proofs.YtogcjflneedcfaaDoorW.PrintLast.i64_w, Go.Proofs.YtogcjflneedcfaaDoorW.PrintLast.i32_w]
          rfl
        refine Go.Proofs.YtogcjflneedcfaaDoorW.PrintLast.pure_ (i := 7) (N := some 16) (v := ?_) (a' := ?_) #[true, true, true, true, true, true, true, true, false, false, false, false, false, false, false, false, false, false, false, false, false, false, false, false, false, false, false, false, false] rfl rfl (by kernel_rfl) (fun _ _ _ h => h) (Or.inl ⟨by rfl, ?_⟩) ?_ ?_
        rotate_left
        · intro w'
          go_simp
          with_reducible rfl
        rotate_left
        · simp only [Act.put, List.setIfInBounds_toArray, List.set_cons_zero, List.set_cons_succ, Go.Proofs.YtogcjflneedcfaaDoorW.PrintLast.i64_w, Go.Proofs.YtogcjflneedcfaaDoorW.PrintLast.i32_w]
          rfl
        refine Go.Proofs.YtogcjflneedcfaaDoorW.PrintLast.take_ (i := 8) (N := some 17) (v := ?_) (a' := ?_) #[true, true, true, true, true, true, true, true, true, false, false, false, false, false, false, false, false, false, false, false, false, false, false, false, false, false, false, false, false] rfl rfl (by kernel_rfl) (fun _ _ _ h => h) (Or.inl ⟨by rfl, ?_⟩) hHeld ?_ ?_
        rotate_left
        · rintro w' ⟨ss, q0, q1, q2, q3, q4, q5, q6, q7, q8, q9, q10, q11, q12⟩
          go_simp
          with_reducible rfl
        rotate_left
        · simp only [Act.put, List.setIfInBounds_toArray, List.set_cons_zero, List.set_cons_succ, Go.Proofs.YtogcjflneedcfaaDoorW.PrintLast.i64_w, Go.Proofs.YtogcjflneedcfaaDoorW.PrintLast.i32_w]
          rfl
        refine Go.Proofs.YtogcjflneedcfaaDoorW.PrintLast.pure_ (i := 9) (N := some 18) (v := ?_) (a' := ?_) #[true, true, true, true, true, true, true, true, true, true, false, false, false, false, false, false, false, false, false, false, false, false, false, false, false, false, false, false, false] rfl rfl (by kernel_rfl) (fun _ _ _ h => h) (Or.inl ⟨by rfl, ?_⟩) ?_ ?_
        rotate_left
        · intro w'
          go_simp
          with_reducible rfl
        rotate_left
        · simp only [Act.put, List.setIfInBounds_toArray, List.set_cons_zero, List.set_cons_succ, Go.Proofs.YtogcjflneedcfaaDoorW.PrintLast.i64_w, Go.Proofs.YtogcjflneedcfaaDoorW.PrintLast.i32_w]
          rfl
        refine Go.Proofs.YtogcjflneedcfaaDoorW.PrintLast.pure_ (i := 10) (N := some 19) (v := ?_) (a' := ?_) #[true, true, true, true, true, true, true, true, true, true, true, false, false, false, false, false, false, false, false, false, false, false, false, false, false, false, false, false, false] rfl rfl (by kernel_rfl) (fun _ _ _ h => h) (Or.inl ⟨by rfl, ?_⟩) ?_ ?_
        rotate_left
        · intro w'
          go_simp
          with_reducible rfl
        rotate_left
        · simp only [Act.put, List.setIfInBounds_toArray, List.set_cons_zero, List.set_cons_succ, Go.Proofs.YtogcjflneedcfaaDoorW.PrintLast.i64_w, Go.Proofs.YtogcjflneedcfaaDoorW.PrintLast.i32_w]
          rfl
        refine Go.Proofs.YtogcjflneedcfaaDoorW.PrintLast.pure_ (i := 11) (N := some 20) (v := ?_) (a' := ?_) #[true, true, true, true, true, true, true, true, true, true, true, true, false, false, false, false, false, false, false, false, false, false, false, false, false, false, false, false, false] rfl rfl (by kernel_rfl) (fun _ _ _ h => h) (Or.inl ⟨by rfl, ?_⟩) ?_ ?_
        rotate_left
        · intro w'
          go_simp
          with_reducible rfl
        rotate_left
        · simp only [Act.put, List.setIfInBounds_toArray, List.set_cons_zero, List.set_cons_succ, Go.Proofs.YtogcjflneedcfaaDoorW.PrintLast.i64_w, Go.Proofs.YtogcjflneedcfaaDoorW.PrintLast.i32_w]
          rfl
        refine Go.Proofs.YtogcjflneedcfaaDoorW.PrintLast.pure_ (i := 12) (N := some 21) (v := ?_) (a' := ?_) #[true, true, true, true, true, true, true, true, true, true, true, true, true, false, false, false, false, false, false, false, false, false, false, false, false, false, false, false, false] rfl rfl (by kernel_rfl) (fun _ _ _ h => h) (Or.inl ⟨by rfl, ?_⟩) ?_ ?_
        rotate_left
        · intro w'
          go_simp
          with_reducible rfl
        rotate_left
        · simp only [Act.put, List.setIfInBounds_toArray, List.set_cons_zero, List.set_cons_succ, Go.Proofs.YtogcjflneedcfaaDoorW.PrintLast.i64_w, Go.Proofs.YtogcjflneedcfaaDoorW.PrintLast.i32_w]
          rfl
        refine Go.Proofs.YtogcjflneedcfaaDoorW.PrintLast.take_ (i := 13) (N := some 22) (v := ?_) (a' := ?_) #[true, true, true, true, true, true, true, true, true, true, true, true, true, true, false, false, false, false, false, false, false, false, false, false, false, false, false, false, false] rfl rfl (by kernel_rfl) (fun _ _ _ h => h) (Or.inl ⟨by rfl, ?_⟩) hHeld ?_ ?_
        rotate_left
        · rintro w' ⟨ss, q0, q1, q2, q3, q4, q5, q6, q7, q8, q9, q10, q11, q12⟩
          go_simp
          with_reducible rfl
        rotate_left
        · simp only [Act.put, List.setIfInBounds_toArray, List.set_cons_zero, List.set_cons_succ, Go.Proofs.YtogcjflneedcfaaDoorW.PrintLast.i64_w, Go.Proofs.YtogcjflneedcfaaDoorW.PrintLast.i32_w]
          rfl
        refine Go.Proofs.YtogcjflneedcfaaDoorW.PrintLast.pure_ (i := 14) (N := some 23) (v := ?_) (a' := ?_) #[true, true, true, true, true, true, true, true, true, true, true, true, true, true, true, false, false, false, false, false, false, false, false, false, false, false, false, false, false] rfl rfl (by kernel_rfl) (fun _ _ _ h => h) (Or.inl ⟨by rfl, ?_⟩) ?_ ?_
        rotate_left
        · intro w'
          go_simp
          with_reducible rfl
        rotate_left
        · simp only [Act.put, List.setIfInBounds_toArray, List.set_cons_zero, List.set_cons_succ, Go.Proofs.YtogcjflneedcfaaDoorW.PrintLast.i64_w, Go.Proofs.YtogcjflneedcfaaDoorW.PrintLast.i32_w]
          rfl
        refine Go.Proofs.YtogcjflneedcfaaDoorW.PrintLast.pure_ (i := 15) (N := some 24) (v := ?_) (a' := ?_) #[true, true, true, true, true, true, true, true, true, true, true, true, true, true, true, true, false, false, false, false, false, false, false, false, false, false, false, false, false] rfl rfl (by kernel_rfl) (fun _ _ _ h => h) (Or.inl ⟨by rfl, ?_⟩) ?_ ?_
        rotate_left
        · intro w'
          go_simp
          with_reducible rfl
        rotate_left
        · simp only [Act.put, List.setIfInBounds_toArray, List.set_cons_zero, List.set_cons_succ, Go.Proofs.YtogcjflneedcfaaDoorW.PrintLast.i64_w, Go.Proofs.YtogcjflneedcfaaDoorW.PrintLast.i32_w]
          rfl
        refine Go.Proofs.YtogcjflneedcfaaDoorW.PrintLast.pure_ (i := 16) (N := some 25) (v := ?_) (a' := ?_) #[true, true, true, true, true, true, true, true, true, true, true, true, true, true, true, true, true, false, false, false, false, false, false, false, false, false, false, false, false] rfl rfl (by kernel_rfl) (fun _ _ _ h => h) (Or.inl ⟨by rfl, ?_⟩) ?_ ?_
        rotate_left
        · intro w'
          go_simp
          with_reducible rfl
        rotate_left
        · simp only [Act.put, List.setIfInBounds_toArray, List.set_cons_zero, List.set_cons_succ, Go.Proofs.YtogcjflneedcfaaDoorW.PrintLast.i64_w, Go.Proofs.YtogcjflneedcfaaDoorW.PrintLast.i32_w]
          rfl
        refine Go.Proofs.YtogcjflneedcfaaDoorW.PrintLast.take_ (i := 17) (N := some 26) (v := ?_) (a' := ?_) #[true, true, true, true, true, true, true, true, true, true, true, true, true, true, true, true, true, true, false, false, false, false, false, false, false, false, false, false, false] rfl rfl (by kernel_rfl) (fun _ _ _ h => h) (Or.inl ⟨by rfl, ?_⟩) hHeld ?_ ?_
        rotate_left
        · rintro w' ⟨ss, q0, q1, q2, q3, q4, q5, q6, q7, q8, q9, q10, q11, q12⟩
          go_simp
          with_reducible rfl
        rotate_left
        · simp only [Act.put, List.setIfInBounds_toArray, List.set_cons_zero, List.set_cons_succ, Go.Proofs.YtogcjflneedcfaaDoorW.PrintLast.i64_w, Go.Proofs.YtogcjflneedcfaaDoorW.PrintLast.i32_w]
          rfl
        refine Go.Proofs.YtogcjflneedcfaaDoorW.PrintLast.one_ (i := 18) (N := some 27) #[true, true, true, true, true, true, true, true, true, true, true, true, true, true, true, true, true, true, true, false, false, false, false, false, false, false, false, false, false] rfl rfl (by kernel_rfl) (by decide) (fun K hK => ?_)
        refine Go.Proofs.YtogcjflneedcfaaDoorW.PrintLast.goes_ Tryd.func61 (by kernel_rfl) rfl #[.agg #[.int .i64 o.s, .string o.t, .string o.l, .string o.u, .bool o.e], .agg #[.int .i64 g.o.s, .string g.o.t, .string g.o.l, .string g.o.u, .bool g.o.e]] (by rfl) rfl rfl (by (try simp only [List.map_toArray, List.map_cons, List.map_nil]); first | done | rfl) ?_
        refine (within_b o g.o _ hm _ hHeld.1.gl).mono ?_
        rintro e w2 ⟨rfl, hb⟩
        refine ⟨_, rfl, ?_⟩
        refine hK.out _ _ (held_h hb hHeld) (fun hHeld => ?_)
        clear hK K
        refine Go.Proofs.YtogcjflneedcfaaDoorW.PrintLast.norm_ (a' := ?_) ?_ ?_
        rotate_left
        · show Act.put _ (some 27) _ = _
          simp only [Act.put, List.setIfInBounds_toArray, List.set_cons_zero, List.set_cons_succ, Go.Proofs.YtogcjflneedcfaaDoorW.PrintLast.i64_w, Go.Proofs.YtogcjflneedcfaaDoorW.PrintLast.i32_w]
          rfl
        refine Go.Proofs.YtogcjflneedcfaaDoorW.PrintLast.pure_ (i := 19) (N := some 28) (v := ?_) (a' := ?_) #[true, true, true, true, true, true, true, true, true, true, true, true, true, true, true, true, true, true, true, true, false, false, false, false, false, false, false, false, false] rfl rfl (by kernel_rfl) (fun _ _ _ h => h) (Or.inl ⟨by rfl, ?_⟩) ?_ ?_
        rotate_left
        · intro w'
          go_simp
          with_reducible rfl
        rotate_left
        · simp only [Act.put, List.setIfInBounds_toArray, List.set_cons_zero, List.set_cons_succ, Go.Proofs.YtogcjflneedcfaaDoorW.PrintLast.i64_w, Go.Proofs.YtogcjflneedcfaaDoorW.PrintLast.i32_w]
          rfl
        refine Go.Proofs.YtogcjflneedcfaaDoorW.PrintLast.pure_ (i := 20) (N := some 29) (v := ?_) (a' := ?_) #[true, true, true, true, true, true, true, true, true, true, true, true, true, true, true, true, true, true, true, true, true, false, false, false, false, false, false, false, false] rfl rfl (by kernel_rfl) (fun _ _ _ h => h) (Or.inl ⟨by rfl, ?_⟩) ?_ ?_
        rotate_left
        · intro w'
          go_simp
          with_reducible rfl
        rotate_left
        · simp only [Act.put, List.setIfInBounds_toArray, List.set_cons_zero, List.set_cons_succ, Go.Proofs.YtogcjflneedcfaaDoorW.PrintLast.i64_w, Go.Proofs.YtogcjflneedcfaaDoorW.PrintLast.i32_w]
          rfl
        refine Go.Proofs.YtogcjflneedcfaaDoorW.PrintLast.pure_ (i := 21) (N := some 30) (v := ?_) (a' := ?_) #[true, true, true, true, true, true, true, true, true, true, true, true, true, true, true, true, true, true, true, true, true, true, false, false, false, false, false, false, false] rfl rfl (by kernel_rfl) (fun _ _ _ h => h) (Or.inl ⟨by rfl, ?_⟩) ?_ ?_
        rotate_left
        · intro w'
          go_simp
          with_reducible rfl
        rotate_left
        · simp only [Act.put, List.setIfInBounds_toArray, List.set_cons_zero, List.set_cons_succ, Go.Proofs.YtogcjflneedcfaaDoorW.PrintLast.i64_w, Go.Proofs.YtogcjflneedcfaaDoorW.PrintLast.i32_w]
          rfl
        refine Go.Proofs.YtogcjflneedcfaaDoorW.PrintLast.pure_ (i := 22) (N := some 31) (v := ?_) (a' := ?_) #[true, true, true, true, true, true, true, true, true, true, true, true, true, true, true, true, true, true, true, true, true, true, true, false, false, false, false, false, false] rfl rfl (by kernel_rfl) (fun _ _ _ h => h) (Or.inl ⟨by rfl, ?_⟩) ?_ ?_
        rotate_left
        · intro w'
          go_simp
          with_reducible rfl
        rotate_left
        · simp only [Act.put, List.setIfInBounds_toArray, List.set_cons_zero, List.set_cons_succ, Go.Proofs.YtogcjflneedcfaaDoorW.PrintLast.i64_w, Go.Proofs.YtogcjflneedcfaaDoorW.PrintLast.i32_w]
          rfl
        refine Go.Proofs.YtogcjflneedcfaaDoorW.PrintLast.pure_ (i := 23) (N := some 32) (v := ?_) (a' := ?_) #[true, true, true, true, true, true, true, true, true, true, true, true, true, true, true, true, true, true, true, true, true, true, true, true, false, false, false, false, false] rfl rfl (by kernel_rfl) (fun _ _ _ h => h) (Or.inl ⟨by rfl, ?_⟩) ?_ ?_
        rotate_left
        · intro w'
          go_simp
          with_reducible rfl
        rotate_left
        · simp only [Act.put, List.setIfInBounds_toArray, List.set_cons_zero, List.set_cons_succ, Go.Proofs.YtogcjflneedcfaaDoorW.PrintLast.i64_w, Go.Proofs.YtogcjflneedcfaaDoorW.PrintLast.i32_w]
          rfl
        refine Go.Proofs.YtogcjflneedcfaaDoorW.PrintLast.take_ (i := 24) (N := some 33) (v := ?_) (a' := ?_) #[true, true, true, true, true, true, true, true, true, true, true, true, true, true, true, true, true, true, true, true, true, true, true, true, true, false, false, false, false] rfl rfl (by kernel_rfl) (fun _ _ _ h => h) (Or.inl ⟨by rfl, ?_⟩) hHeld ?_ ?_
        rotate_left
        · rintro w' ⟨ss, q0, q1, q2, q3, q4, q5, q6, q7, q8, q9, q10, q11, q12⟩
          go_simp
          with_reducible rfl
        rotate_left
        · simp only [Act.put, List.setIfInBounds_toArray, List.set_cons_zero, List.set_cons_succ, Go.Proofs.YtogcjflneedcfaaDoorW.PrintLast.i64_w, Go.Proofs.YtogcjflneedcfaaDoorW.PrintLast.i32_w]
          rfl
        refine Go.Proofs.YtogcjflneedcfaaDoorW.PrintLast.pure_ (i := 25) (N := some 34) (v := ?_) (a' := ?_) #[true, true, true, true, true, true, true, true, true, true, true, true, true, true, true, true, true, true, true, true, true, true, true, true, true, true, false, false, false] rfl rfl (by kernel_rfl) (fun _ _ _ h => h) (Or.inl ⟨by rfl, ?_⟩) ?_ ?_
        rotate_left
        · intro w'
          go_simp
          with_reducible rfl
        rotate_left
        · simp only [Act.put, List.setIfInBounds_toArray, List.set_cons_zero, List.set_cons_succ, Go.Proofs.YtogcjflneedcfaaDoorW.PrintLast.i64_w, Go.Proofs.YtogcjflneedcfaaDoorW.PrintLast.i32_w]
          rfl
        refine Go.Proofs.YtogcjflneedcfaaDoorW.PrintLast.one_ (i := 26) (N := some 35) #[true, true, true, true, true, true, true, true, true, true, true, true, true, true, true, true, true, true, true, true, true, true, true, true, true, true, true, false, false] rfl rfl (by kernel_rfl) (by decide) (fun K hK => ?_)
        refine Go.Proofs.YtogcjflneedcfaaDoorW.PrintLast.goes_ Tryd.func62 (by kernel_rfl) rfl #[.int .i64 g.m, .int .i64 m] (by rfl) rfl rfl (by (try simp only [List.map_toArray, List.map_cons, List.map_nil]); first | done | rfl) ?_
        refine (cov_any _ _ _ (St.refl hHeld.1.gl)).mono ?_
        rintro e w2 ⟨rfl, rfl⟩
        refine ⟨_, rfl, ?_⟩
        refine hK.out _ _ hHeld (fun hHeld => ?_)
        clear hK K
        refine Go.Proofs.YtogcjflneedcfaaDoorW.PrintLast.norm_ (a' := ?_) ?_ ?_
        rotate_left
        · show Act.put _ (some 35) _ = _
          simp only [Act.put, List.setIfInBounds_toArray, List.set_cons_zero, List.set_cons_succ, Go.Proofs.YtogcjflneedcfaaDoorW.PrintLast.i64_w, Go.Proofs.YtogcjflneedcfaaDoorW.PrintLast.i32_w]
          rfl
        refine Go.Proofs.YtogcjflneedcfaaDoorW.PrintLast.pure_ (i := 27) (N := some 36) (v := ?_) (a' := ?_) #[true, true, true, true, true, true, true, true, true, true, true, true, true, true, true, true, true, true, true, true, true, true, true, true, true, true, true, true, false] rfl rfl (by kernel_rfl) (fun _ _ _ h => h) (Or.inl ⟨by rfl, ?_⟩) ?_ ?_
        rotate_left
        · intro w'
          go_simp
          with_reducible rfl
        rotate_left
        · simp only [Act.put, List.setIfInBounds_toArray, List.set_cons_zero, List.set_cons_succ, Go.Proofs.YtogcjflneedcfaaDoorW.PrintLast.i64_w, Go.Proofs.YtogcjflneedcfaaDoorW.PrintLast.i32_w]
          rfl
        refine Go.Proofs.YtogcjflneedcfaaDoorW.PrintLast.pure_ (i := 28) (N := some 8) (v := ?_) (a' := ?_) #[true, true, true, true, true, true, true, true, true, true, true, true, true, true, true, true, true, true, true, true, true, true, true, true, true, true, true, true, true] rfl rfl (by kernel_rfl) (fun _ _ _ h => h) (Or.inl ⟨by rfl, ?_⟩) ?_ ?_
        rotate_left
        · intro w'
          go_simp
          with_reducible rfl
        rotate_left
        · simp only [Act.put, List.setIfInBounds_toArray, List.set_cons_zero, List.set_cons_succ, Go.Proofs.YtogcjflneedcfaaDoorW.PrintLast.i64_w, Go.Proofs.YtogcjflneedcfaaDoorW.PrintLast.i32_w]
          rfl
        refine Go.Proofs.YtogcjflneedcfaaDoorW.PrintLast.done_ (by kernel_rfl) ?_
        go_wp2
        go_ret
        exact ⟨rfl, hHeld.1⟩
    · have h2 : (g.tx == tx) = false := by simpa using h1
      have h3 : decide (g.tx = tx) = false := decide_eq_false h1
      rw [h2, Bool.false_and, Bool.false_and]
      go_enter Tryd.func41, Tryd.ntmps41
      go_wp2
      refine Go.Proofs.YtogcjflneedcfaaDoorW.PrintLast.start_ (n := 29) (S := fun v => St w v ∧ v.cell? ⟨p, 0, none⟩ = some (.int .i64 g.tx) ∧ v.cell? ⟨p, 1, none⟩ = some (.int .i64 g.o.s) ∧ v.cell? ⟨p, 2, none⟩ = some (.string g.o.t) ∧ v.cell? ⟨p, 3, none⟩ = some (.string g.o.l) ∧ v.cell? ⟨p, 4, none⟩ = some (.string g.o.u) ∧ v.cell? ⟨p, 5, none⟩ = some (.bool g.o.e) ∧ v.cell? ⟨p, 6, none⟩ = some (.int .i64 g.m) ∧ v.cell? ⟨p, 7, none⟩ = some (.bool true) ∧ v.cell? ⟨w.heap.size, 0, none⟩ = some (.int .i64 o.s) ∧ v.cell? ⟨w.heap.size, 1, none⟩ = some (.string o.t) ∧ v.cell? ⟨w.heap.size, 2, none⟩ = some (.string o.l) ∧ v.cell? ⟨w.heap.size, 3, none⟩ = some (.string o.u) ∧ v.cell? ⟨w.heap.size, 4, none⟩ = some (.bool o.e)) (ds := [28]) #[false, false, false, false, false, false, false, false, false, false, false, false, false, false, false, false, false, false, false, false, false, false, false, false, false, false, false, false, false] (by kernel_rfl) rfl rfl ⟨((St.refl gl).alloc _).drew, e0, e1, e2, e3, e4, e5, e6, e7, x0, x1, x2, x3, x4⟩ (fun hHeld => ?_)
      refine Go.Proofs.YtogcjflneedcfaaDoorW.PrintLast.pure_ (i := 0) (N := some 9) (v := ?_) (a' := ?_) #[true, false, false, false, false, false, false, false, false, false, false, false, false, false, false, false, false, false, false, false, false, false, false, false, false, false, false, false, false] rfl rfl (by kernel_rfl) (fun _ _ _ h => h) (Or.inl ⟨by rfl, ?_⟩) ?_ ?_
      rotate_left
      · intro w'
        go_simp
        with_reducible rfl
      rotate_left
      · simp only [Act.put, List.setIfInBounds_toArray, List.set_cons_zero, List.set_cons_succ, Go.Proofs.YtogcjflneedcfaaDoorW.PrintLast.i64_w, Go.Proofs.YtogcjflneedcfaaDoorW.PrintLast.i32_w]
        rfl
      refine Go.Proofs.YtogcjflneedcfaaDoorW.PrintLast.pure_ (i := 1) (N := some 10) (v := ?_) (a' := ?_) #[true, true, false, false, false, false, false, false, false, false, false, false, false, false, false, false, false, false, false, false, false, false, false, false, false, false, false, false, false] rfl rfl (by kernel_rfl) (fun _ _ _ h => h) (Or.inl ⟨by rfl, ?_⟩) ?_ ?_
      rotate_left
      · intro w'
        go_simp
        with_reducible rfl
      rotate_left
      · simp only [Act.put, List.setIfInBounds_toArray, List.set_cons_zero, List.set_cons_succ, Go.Proofs.YtogcjflneedcfaaDoorW.PrintLast.i64_w, Go.Proofs.YtogcjflneedcfaaDoorW.PrintLast.i32_w]
        rfl
      refine Go.Proofs.YtogcjflneedcfaaDoorW.PrintLast.pure_ (i := 2) (N := some 11) (v := ?_) (a' := ?_) #[true, true, true, false, false, false, false, false, false, false, false, false, false, false, false, false, false, false, false, false, false, false, false, false, false, false, false, false, false] rfl rfl (by kernel_rfl) (fun _ _ _ h => h) (Or.inl ⟨by rfl, ?_⟩) ?_ ?_
      rotate_left
      · intro w'
        go_simp
        with_reducible rfl
      rotate_left
      · simp only [Act.put, List.setIfInBounds_toArray, List.set_cons_zero, List.set_cons_succ, Go.Proofs.YtogcjflneedcfaaDoorW.PrintLast.i64_w, Go.Proofs.YtogcjflneedcfaaDoorW.PrintLast.i32_w]
        rfl
      refine Go.Proofs.YtogcjflneedcfaaDoorW.PrintLast.take_ (i := 3) (N := some 12) (v := ?_) (a' := ?_) #[true, true, true, true, false, false, false, false, false, false, false, false, false, false, false, false, false, false, false, false, false, false, false, false, false, false, false, false, false] rfl rfl (by kernel_rfl) (fun _ _ _ h => h) (Or.inl ⟨by rfl, ?_⟩) hHeld ?_ ?_
      rotate_left
      · rintro w' ⟨ss, q0, q1, q2, q3, q4, q5, q6, q7, q8, q9, q10, q11, q12⟩
        go_simp
        with_reducible rfl
      rotate_left
      · simp only [Act.put, List.setIfInBounds_toArray, List.set_cons_zero, List.set_cons_succ, Go.Proofs.YtogcjflneedcfaaDoorW.PrintLast.i64_w, Go.Proofs.YtogcjflneedcfaaDoorW.PrintLast.i32_w]
        rfl
      refine Go.Proofs.YtogcjflneedcfaaDoorW.PrintLast.pure_ (i := 4) (N := some 13) (v := ?_) (a' := ?_) #[true, true, true, true, true, false, false, false, false, false, false, false, false, false, false, false, false, false, false, false, false, false, false, false, false, false, false, false, false] rfl rfl (by kernel_rfl) (fun _ _ _ h => h) (Or.inl ⟨by rfl, ?_⟩) ?_ ?_
      rotate_left
      · intro w'
        go_simp
        with_reducible rfl
      rotate_left
      · simp only [Act.put, List.setIfInBounds_toArray, List.set_cons_zero, List.set_cons_succ, Go.Proofs.YtogcjflneedcfaaDoorW.PrintLast.i64_w, Go.Proofs.YtogcjflneedcfaaDoorW.PrintLast.i32_w]
        rfl
      refine Go.Proofs.YtogcjflneedcfaaDoorW.PrintLast.pure_ (i := 5) (N := some 14) (v := ?_) (a' := ?_) #[true, true, true, true, true, true, false, false, false, false, false, false, false, false, false, false, false, false, false, false, false, false, false, false, false, false, false, false, false] rfl rfl (by kernel_rfl) (fun _ _ _ h => h) (Or.inl ⟨by rfl, ?_⟩) ?_ ?_
      rotate_left
      · intro w'
        go_simp
        with_reducible rfl
      rotate_left
      · simp only [Act.put, List.setIfInBounds_toArray, List.set_cons_zero, List.set_cons_succ, Go.Proofs.YtogcjflneedcfaaDoorW.PrintLast.i64_w, Go.Proofs.YtogcjflneedcfaaDoorW.PrintLast.i32_w]
        rfl
      refine Go.Proofs.YtogcjflneedcfaaDoorW.PrintLast.pure_ (i := 6) (N := some 15) (v := ?_) (a' := ?_) #[true, true, true, true, true, true, true, false, false, false, false, false, false, false, false, false, false, false, false, false, false, false, false, false, false, false, false, false, false] rfl rfl (by kernel_rfl) (fun _ _ _ h => h) (Or.inl ⟨by rfl, ?_⟩) ?_ ?_
      rotate_left
      · intro w'
        go_simp
        with_reducible rfl
      rotate_left
      · simp only [Act.put, List.setIfInBounds_toArray, List.set_cons_zero, List.set_cons_succ, Go.Proofs.YtogcjflneedcfaaDoorW.PrintLast.i64_w, Go.Proofs.YtogcjflneedcfaaDoorW.PrintLast.i32_w]
        rfl
      refine Go.Proofs.YtogcjflneedcfaaDoorW.PrintLast.pure_ (i := 7) (N := some 16) (v := ?_) (a' := ?_) #[true, true, true, true, true, true, true, true, false, false, false, false, false, false, false, false, false, false, false, false, false, false, false, false, false, false, false, false, false] rfl rfl (by kernel_rfl) (fun _ _ _ h => h) (Or.inl ⟨by rfl, ?_⟩) ?_ ?_
      rotate_left
      · intro w'
        go_simp
        with_reducible rfl
      rotate_left
      · simp only [Act.put, List.setIfInBounds_toArray, List.set_cons_zero, List.set_cons_succ, Go.Proofs.YtogcjflneedcfaaDoorW.PrintLast.i64_w, Go.Proofs.YtogcjflneedcfaaDoorW.PrintLast.i32_w]
        rfl
      refine Go.Proofs.YtogcjflneedcfaaDoorW.PrintLast.take_ (i := 8) (N := some 17) (v := ?_) (a' := ?_) #[true, true, true, true, true, true, true, true, true, false, false, false, false, false, false, false, false, false, false, false, false, false, false, false, false, false, false, false, false] rfl rfl (by kernel_rfl) (fun _ _ _ h => h) (Or.inl ⟨by rfl, ?_⟩) hHeld ?_ ?_
      rotate_left
      · rintro w' ⟨ss, q0, q1, q2, q3, q4, q5, q6, q7, q8, q9, q10, q11, q12⟩
        go_simp
        with_reducible rfl
      rotate_left
      · simp only [Act.put, List.setIfInBounds_toArray, List.set_cons_zero, List.set_cons_succ, Go.Proofs.YtogcjflneedcfaaDoorW.PrintLast.i64_w, Go.Proofs.YtogcjflneedcfaaDoorW.PrintLast.i32_w]
        rfl
      refine Go.Proofs.YtogcjflneedcfaaDoorW.PrintLast.pure_ (i := 9) (N := some 18) (v := ?_) (a' := ?_) #[true, true, true, true, true, true, true, true, true, true, false, false, false, false, false, false, false, false, false, false, false, false, false, false, false, false, false, false, false] rfl rfl (by kernel_rfl) (fun _ _ _ h => h) (Or.inl ⟨by rfl, ?_⟩) ?_ ?_
      rotate_left
      · intro w'
        go_simp
        with_reducible rfl
      rotate_left
      · simp only [Act.put, List.setIfInBounds_toArray, List.set_cons_zero, List.set_cons_succ, Go.Proofs.YtogcjflneedcfaaDoorW.PrintLast.i64_w, Go.Proofs.YtogcjflneedcfaaDoorW.PrintLast.i32_w]
        rfl
      refine Go.Proofs.YtogcjflneedcfaaDoorW.PrintLast.pure_ (i := 10) (N := some 19) (v := ?_) (a' := ?_) #[true, true, true, true, true, true, true, true, true, true, true, false, false, false, false, false, false, false, false, false, false, false, false, false, false, false, false, false, false] rfl rfl (by kernel_rfl) (fun _ _ _ h => h) (Or.inl ⟨by rfl, ?_⟩) ?_ ?_
      rotate_left
      · intro w'
        go_simp
        with_reducible rfl
      rotate_left
      · simp only [Act.put, List.setIfInBounds_toArray, List.set_cons_zero, List.set_cons_succ, Go.Proofs.YtogcjflneedcfaaDoorW.PrintLast.i64_w, Go.Proofs.YtogcjflneedcfaaDoorW.PrintLast.i32_w]
        rfl
      refine Go.Proofs.YtogcjflneedcfaaDoorW.PrintLast.pure_ (i := 11) (N := some 20) (v := ?_) (a' := ?_) #[true, true, true, true, true, true, true, true, true, true, true, true, false, false, false, false, false, false, false, false, false, false, false, false, false, false, false, false, false] rfl rfl (by kernel_rfl) (fun _ _ _ h => h) (Or.inl ⟨by rfl, ?_⟩) ?_ ?_
      rotate_left
      · intro w'
        go_simp
        with_reducible rfl
      rotate_left
      · simp only [Act.put, List.setIfInBounds_toArray, List.set_cons_zero, List.set_cons_succ, Go.Proofs.YtogcjflneedcfaaDoorW.PrintLast.i64_w, Go.Proofs.YtogcjflneedcfaaDoorW.PrintLast.i32_w]
        rfl
      refine Go.Proofs.YtogcjflneedcfaaDoorW.PrintLast.pure_ (i := 12) (N := some 21) (v := ?_) (a' := ?_) #[true, true, true, true, true, true, true, true, true, true, true, true, true, false, false, false, false, false, false, false, false, false, false, false, false, false, false, false, false] rfl rfl (by kernel_rfl) (fun _ _ _ h => h) (Or.inl ⟨by rfl, ?_⟩) ?_ ?_
      rotate_left
      · intro w'
        go_simp
        with_reducible rfl
      rotate_left
      · simp only [Act.put, List.setIfInBounds_toArray, List.set_cons_zero, List.set_cons_succ, Go.Proofs.YtogcjflneedcfaaDoorW.PrintLast.i64_w, Go.Proofs.YtogcjflneedcfaaDoorW.PrintLast.i32_w]
        rfl
      refine Go.Proofs.YtogcjflneedcfaaDoorW.PrintLast.pure_ (i := 13) (N := some 22) (v := _) (a' := ?_) #[true, true, true, true, true, true, true, true, true, true, true, true, true, true, false, false, false, false, false, false, false, false, false, false, false, false, false, false, false] rfl rfl (by kernel_rfl) (fun _ _ _ h => h) (Or.inr ⟨by rfl, rfl⟩) ?_ ?_
      rotate_left
      · simp only [Act.put, List.setIfInBounds_toArray, List.set_cons_zero, List.set_cons_succ, Go.Proofs.YtogcjflneedcfaaDoorW.PrintLast.i64_w, Go.Proofs.YtogcjflneedcfaaDoorW.PrintLast.i32_w]
        rfl
      refine Go.Proofs.YtogcjflneedcfaaDoorW.PrintLast.pure_ (i := 14) (N := some 23) (v := _) (a' := ?_) #[true, true, true, true, true, true, true, true, true, true, true, true, true, true, true, false, false, false, false, false, false, false, false, false, false, false, false, false, false] rfl rfl (by kernel_rfl) (fun _ _ _ h => h) (Or.inr ⟨by rfl, rfl⟩) ?_ ?_
      rotate_left
      · simp only [Act.put, List.setIfInBounds_toArray, List.set_cons_zero, List.set_cons_succ, Go.Proofs.YtogcjflneedcfaaDoorW.PrintLast.i64_w, Go.Proofs.YtogcjflneedcfaaDoorW.PrintLast.i32_w]
        rfl
      refine Go.Proofs.YtogcjflneedcfaaDoorW.PrintLast.pure_ (i := 15) (N := some 24) (v := _) (a' := ?_) #[true, true, true, true, true, true, true, true, true, true, true, true, true, true, true, true, false, false, false, false, false, false, false, false, false, false, false, false, false] rfl rfl (by kernel_rfl) (fun _ _ _ h => h) (Or.inr ⟨by rfl, rfl⟩) ?_ ?_
      rotate_left
      · simp only [Act.put, List.setIfInBounds_toArray, List.set_cons_zero, List.set_cons_succ, Go.Proofs.YtogcjflneedcfaaDoorW.PrintLast.i64_w, Go.Proofs.YtogcjflneedcfaaDoorW.PrintLast.i32_w]
        rfl
      refine Go.Proofs.YtogcjflneedcfaaDoorW.PrintLast.pure_ (i := 16) (N := some 25) (v := _) (a' := ?_) #[true, true, true, true, true, true, true, true, true, true, true, true, true, true, true, true, true, false, false, false, false, false, false, false, false, false, false, false, false] rfl rfl (by kernel_rfl) (fun _ _ _ h => h) (Or.inr ⟨by rfl, rfl⟩) ?_ ?_
      rotate_left
      · simp only [Act.put, List.setIfInBounds_toArray, List.set_cons_zero, List.set_cons_succ, Go.Proofs.YtogcjflneedcfaaDoorW.PrintLast.i64_w, Go.Proofs.YtogcjflneedcfaaDoorW.PrintLast.i32_w]
        rfl
      refine Go.Proofs.YtogcjflneedcfaaDoorW.PrintLast.pure_ (i := 17) (N := some 26) (v := _) (a' := ?_) #[true, true, true, true, true, true, true, true, true, true, true, true, true, true, true, true, true, true, false, false, false, false, false, false, false, false, false, false, false] rfl rfl (by kernel_rfl) (fun _ _ _ h => h) (Or.inr ⟨by rfl, rfl⟩) ?_ ?_
      rotate_left
      · simp only [Act.put, List.setIfInBounds_toArray, List.set_cons_zero, List.set_cons_succ, Go.Proofs.YtogcjflneedcfaaDoorW.PrintLast.i64_w, Go.Proofs.YtogcjflneedcfaaDoorW.PrintLast.i32_w]
        rfl
      refine Go.Proofs.YtogcjflneedcfaaDoorW.PrintLast.pure_ (i := 18) (N := some 27) (v := _) (a' := ?_) #[true, true, true, true, true, true, true, true, true, true, true, true, true, true, true, true, true, true, true, false, false, false, false, false, false, false, false, false, false] rfl rfl (by kernel_rfl) (fun _ _ _ h => h) (Or.inr ⟨by rfl, rfl⟩) ?_ ?_
      rotate_left
      · simp only [Act.put, List.setIfInBounds_toArray, List.set_cons_zero, List.set_cons_succ, Go.Proofs.YtogcjflneedcfaaDoorW.PrintLast.i64_w, Go.Proofs.YtogcjflneedcfaaDoorW.PrintLast.i32_w]
        rfl
      refine Go.Proofs.YtogcjflneedcfaaDoorW.PrintLast.pure_ (i := 19) (N := some 28) (v := ?_) (a' := ?_) #[true, true, true, true, true, true, true, true, true, true, true, true, true, true, true, true, true, true, true, true, false, false, false, false, false, false, false, false, false] rfl rfl (by kernel_rfl) (fun _ _ _ h => h) (Or.inl ⟨by rfl, ?_⟩) ?_ ?_
      rotate_left
      · intro w'
        go_simp
        with_reducible rfl
      rotate_left
      · simp only [Act.put, List.setIfInBounds_toArray, List.set_cons_zero, List.set_cons_succ, Go.Proofs.YtogcjflneedcfaaDoorW.PrintLast.i64_w, Go.Proofs.YtogcjflneedcfaaDoorW.PrintLast.i32_w]
        rfl
      refine Go.Proofs.YtogcjflneedcfaaDoorW.PrintLast.pure_ (i := 20) (N := some 29) (v := ?_) (a' := ?_) #[true, true, true, true, true, true, true, true, true, true, true, true, true, true, true, true, true, true, true, true, true, false, false, false, false, false, false, false, false] rfl rfl (by kernel_rfl) (fun _ _ _ h => h) (Or.inl ⟨by rfl, ?_⟩) ?_ ?_
      rotate_left
      · intro w'
        go_simp
        with_reducible rfl
      rotate_left
      · simp only [Act.put, List.setIfInBounds_toArray, List.set_cons_zero, List.set_cons_succ, Go.Proofs.YtogcjflneedcfaaDoorW.PrintLast.i64_w, Go.Proofs.YtogcjflneedcfaaDoorW.PrintLast.i32_w]
        rfl
      refine Go.Proofs.YtogcjflneedcfaaDoorW.PrintLast.pure_ (i := 21) (N := some 30) (v := _) (a' := ?_) #[true, true, true, true, true, true, true, true, true, true, true, true, true, true, true, true, true, true, true, true, true, true, false, false, false, false, false, false, false] rfl rfl (by kernel_rfl) (fun _ _ _ h => h) (Or.inr ⟨by rfl, rfl⟩) ?_ ?_
      rotate_left
      · simp only [Act.put, List.setIfInBounds_toArray, List.set_cons_zero, List.set_cons_succ, Go.Proofs.YtogcjflneedcfaaDoorW.PrintLast.i64_w, Go.Proofs.YtogcjflneedcfaaDoorW.PrintLast.i32_w]
        rfl
      refine Go.Proofs.YtogcjflneedcfaaDoorW.PrintLast.pure_ (i := 22) (N := some 31) (v := _) (a' := ?_) #[true, true, true, true, true, true, true, true, true, true, true, true, true, true, true, true, true, true, true, true, true, true, true, false, false, false, false, false, false] rfl rfl (by kernel_rfl) (fun _ _ _ h => h) (Or.inr ⟨by rfl, rfl⟩) ?_ ?_
      rotate_left
      · simp only [Act.put, List.setIfInBounds_toArray, List.set_cons_zero, List.set_cons_succ, Go.Proofs.YtogcjflneedcfaaDoorW.PrintLast.i64_w, Go.Proofs.YtogcjflneedcfaaDoorW.PrintLast.i32_w]
        rfl
      refine Go.Proofs.YtogcjflneedcfaaDoorW.PrintLast.pure_ (i := 23) (N := some 32) (v := _) (a' := ?_) #[true, true, true, true, true, true, true, true, true, true, true, true, true, true, true, true, true, true, true, true, true, true, true, true, false, false, false, false, false] rfl rfl (by kernel_rfl) (fun _ _ _ h => h) (Or.inr ⟨by rfl, rfl⟩) ?_ ?_
      rotate_left
      · simp only [Act.put, List.setIfInBounds_toArray, List.set_cons_zero, List.set_cons_succ, Go.Proofs.YtogcjflneedcfaaDoorW.PrintLast.i64_w, Go.Proofs.YtogcjflneedcfaaDoorW.PrintLast.i32_w]
        rfl
      refine Go.Proofs.YtogcjflneedcfaaDoorW.PrintLast.pure_ (i := 24) (N := some 33) (v := _) (a' := ?_) #[true, true, true, true, true, true, true, true, true, true, true, true, true, true, true, true, true, true, true, true, true, true, true, true, true, false, false, false, false] rfl rfl (by kernel_rfl) (fun _ _ _ h => h) (Or.inr ⟨by rfl, rfl⟩) ?_ ?_
      rotate_left
      · simp only [Act.put, List.setIfInBounds_toArray, List.set_cons_zero, List.set_cons_succ, Go.Proofs.YtogcjflneedcfaaDoorW.PrintLast.i64_w, Go.Proofs.YtogcjflneedcfaaDoorW.PrintLast.i32_w]
        rfl
      refine Go.Proofs.YtogcjflneedcfaaDoorW.PrintLast.pure_ (i := 25) (N := some 34) (v := _) (a' := ?_) #[true, true, true, true, true, true, true, true, true, true, true, true, true, true, true, true, true, true, true, true, true, true, true, true, true, true, false, false, false] rfl rfl (by kernel_rfl) (fun _ _ _ h => h) (Or.inr ⟨by rfl, rfl⟩) ?_ ?_
      rotate_left
      · simp only [Act.put, List.setIfInBounds_toArray, List.set_cons_zero, List.set_cons_succ, Go.Proofs.YtogcjflneedcfaaDoorW.PrintLast.i64_w, Go.Proofs.YtogcjflneedcfaaDoorW.PrintLast.i32_w]
        rfl
      refine Go.Proofs.YtogcjflneedcfaaDoorW.PrintLast.pure_ (i := 26) (N := some 35) (v := _) (a' := ?_) #[true, true, true, true, true, true, true, true, true, true, true, true, true, true, true, true, true, true, true, true, true, true, true, true, true, true, true, false, false] rfl rfl (by kernel_rfl) (fun _ _ _ h => h) (Or.inr ⟨by rfl, rfl⟩) ?_ ?_
      rotate_left
      · simp only [Act.put, List.setIfInBounds_toArray, List.set_cons_zero, List.set_cons_succ, Go.Proofs.YtogcjflneedcfaaDoorW.PrintLast.i64_w, Go.Proofs.YtogcjflneedcfaaDoorW.PrintLast.i32_w]
        rfl
      refine Go.Proofs.YtogcjflneedcfaaDoorW.PrintLast.pure_ (i := 27) (N := some 36) (v := ?_) (a' := ?_) #[true, true, true, true, true, true, true, true, true, true, true, true, true, true, true, true, true, true, true, true, true, true, true, true, true, true, true, true, false] rfl rfl (by kernel_rfl) (fun _ _ _ h => h) (Or.inl ⟨by rfl, ?_⟩) ?_ ?_
      rotate_left
      · intro w'
        go_simp
        with_reducible rfl
      rotate_left
      · simp only [Act.put, List.setIfInBounds_toArray, List.set_cons_zero, List.set_cons_succ, Go.Proofs.YtogcjflneedcfaaDoorW.PrintLast.i64_w, Go.Proofs.YtogcjflneedcfaaDoorW.PrintLast.i32_w]
        rfl
      refine Go.Proofs.YtogcjflneedcfaaDoorW.PrintLast.pure_ (i := 28) (N := some 8) (v := ?_) (a' := ?_) #[true, true, true, true, true, true, true, true, true, true, true, true, true, true, true, true, true, true, true, true, true, true, true, true, true, true, true, true, true] rfl rfl (by kernel_rfl) (fun _ _ _ h => h) (Or.inl ⟨by rfl, ?_⟩) ?_ ?_
      rotate_left
      · intro w'
        go_simp
        with_reducible rfl
      rotate_left
      · simp only [Act.put, List.setIfInBounds_toArray, List.set_cons_zero, List.set_cons_succ, Go.Proofs.YtogcjflneedcfaaDoorW.PrintLast.i64_w, Go.Proofs.YtogcjflneedcfaaDoorW.PrintLast.i32_w]
        rfl
      refine Go.Proofs.YtogcjflneedcfaaDoorW.PrintLast.done_ (by kernel_rfl) ?_
      go_wp2
      go_ret
      exact ⟨rfl, hHeld.1⟩

theorem has1_any (p B0 B1 B2 : Nat) (g : Rq) (tx : Int) (o : Ob) (m : Int) (w : World) (gl : Gl w) (hp : IsRq w p g) (h0 : w.cell? ⟨B0, 0, none⟩ = some (.int .i64 tx)) (h1 : w.heap[B1]? = some (.cells #[.int .i64 o.s, .string o.t, .string o.l, .string o.u, .bool o.e] 30 (0, 0))) (h2 : w.cell? ⟨B2, 0, none⟩ = some (.int .i64 m)) : Calls Tryd.prog 40 #[ptr p, ptr B0, ptr B1, ptr B2] w fun e w' => e = .returned (.bool (holds g tx o m)) ∧ St w w' := by
  have HP := Lib.hid hp
  have x0 : w.cell? ⟨B1, 0, none⟩ = some (.int .i64 o.s) := (blk_cell h1 0).trans rfl
  have x1 : w.cell? ⟨B1, 1, none⟩ = some (.string o.t) := (blk_cell h1 1).trans rfl
  have x2 : w.cell? ⟨B1, 2, none⟩ = some (.string o.l) := (blk_cell h1 2).trans rfl
  have x3 : w.cell? ⟨B1, 3, none⟩ = some (.string o.u) := (blk_cell h1 3).trans rfl
  have x4 : w.cell? ⟨B1, 4, none⟩ = some (.bool o.e) := (blk_cell h1 4).trans rfl
  clear hp h1
  have hc := holds_any p g tx o m w gl HP.out
  unfold ptr at *
  go_enter Tryd.func40, Tryd.ntmps40
  go_wp2_with (go_at_call 41; refine hc.mono ?_; clear hc; rintro e w2 ⟨rfl, hb⟩)
  go_ret
  exact ⟨rfl, hb⟩
end Lk
end Go.Proofs.YtogcjflneedcfaaDoor

namespace Go.Proofs.YtogcjflneedcfaaDoor
open Go.RowKit Md
set_option linter.unusedVariables false
set_option linter.unusedSimpArgs false
namespace Lk

theorem own_slice {w : World} {base : Nat} {e : TypeId} {size n : Nat} {v : Value} {xs : List Value} (h : w.ownsRow base e size v n xs) : ∃ a c, v = .slice a n c := by
  rcases h.2 with ⟨q, h0⟩ | ⟨g, cap, cur, q, _⟩
  · exact ⟨_, _, by rw [q, h0]⟩
  · exact ⟨_, _, q⟩
theorem own_len {w : World} {base : Nat} {e : TypeId} {size n : Nat} {v : Value} {xs : List Value} (h : w.ownsRow base e size v n xs) : n ≤ maxLen := by
  rcases h.2 with ⟨q, h0⟩ | ⟨g, cap, cur, q, q1, q2, q3, q4, _⟩
  · omega
  · omega
/-- the pointers of a row, cell by cell -/
theorem row_ptr {w : World} {a : Option Addr} {n c : Nat} {ps : List Nat} (h : w.ownsRow 0 66 1 (.slice a n c) n (ps.map ptr)) {i p : Nat} (hp : ps[i]? = some p) : ∃ g, a = some ⟨g, 0, none⟩ ∧ w.cell? ⟨g, i, none⟩ = some (ptr p) := by
  have hl : ps.length = n := by have := h.1; simpa using this
  have hi : i < ps.length := (List.getElem?_eq_some_iff.1 hp).1
  rcases h.2 with ⟨q, h0⟩ | ⟨g, cap, cur, q, q1, q2, q3, q4, q5, q6⟩
  · omega
  · cases q
    refine ⟨g, rfl, (blk_cell q2 i).trans ?_⟩
    have h2 : (cur.toList.take (n * 1))[i]? = (ps.map ptr)[i]? := by rw [q6]
    rw [List.getElem?_take_of_lt (by omega), List.getElem?_map, hp] at h2
    simpa using h2
/-- the first place below n at which q holds, or -1 -/
def idx (q : Nat → Bool) (n : Nat) : Int := match (List.range n).find? q with
  | some i => (i : Int)
  | none => -1
theorem idx_at {q : Nat → Bool} {n k : Nat} (hk : k < n) (h : q k = true) (hl : ∀ j, j < k → q j = false) : idx q n = k := by
  unfold idx
  rw [find_at q n k hk h hl]
theorem idx_no {q : Nat → Bool} {n : Nat} (hl : ∀ j, j < n → q j = false) : idx q n = -1 := by
  unfold idx
  rw [find_no q n hl]
theorem idx_cases (q : Nat → Bool) (n : Nat) : (∃ k, k < n ∧ q k = true ∧ (∀ j, j < k → q j = false) ∧ idx q n = k) ∨ ((∀ j, j < n → q j = false) ∧ idx q n = -1) := by
  by_cases h : ∃ k, k < n ∧ q k = true
  · obtain ⟨k, hk⟩ := h
    left
    induction k using Nat.strongRecOn with
    | _ k ih =>
      by_cases hj : ∃ j, j < k ∧ q j = true
      · obtain ⟨j, h1, h2⟩ := hj
        exact ih j h1 ⟨by omega, h2⟩
      · refine ⟨k, hk.1, hk.2, fun j hj2 => ?_, idx_at hk.1 hk.2 fun j hj2 => ?_⟩ <;>
        · cases hq : q j
          · rfl
          · exact absurd ⟨j, hj2, hq⟩ hj
  · right
    have hl : ∀ j, j < n → q j = false := fun j hj => by
      cases hq : q j
      · rfl
      · exact absurd ⟨j, hj, hq⟩ h
    exact ⟨hl, idx_no hl⟩

def L59_40 (q : Nat → Bool) (n : Nat) (w : World) (i : Value) (wr : World) : Prop := ∃ k : Nat, i = .int .i64 k ∧ k ≤ n ∧ (∀ j, j < k → q j = false) ∧ St w wr
set_option maxRecDepth 100000 in
theorem index40_any (v : Value) (ps : List Nat) (n : Nat) (q : Nat → Bool) (C0 C1 C2 : Value) (w : World) (gl : Gl w) (hrow : w.ownsRow 0 66 1 v n (ps.map ptr))
    (hq : ∀ (i p : Nat) (W : World), ps[i]? = some p → St w W → Calls Tryd.prog 40 #[ptr p, C0, C1, C2] W fun e W' => e = .returned (.bool (q i)) ∧ St W W') :
    Calls Tryd.prog 59 #[v, .func (.func 40) #[] #[C0, C1, C2]] w fun e w' => e = .returned (.int .i64 (idx q n)) ∧ St w w' := by
  obtain ⟨a, c, rfl⟩ := own_slice hrow
  have hn := own_len hrow
  simp only [maxLen] at hn
  have hl : ps.length = n := by have := hrow.1; simpa using this
  have HROW := Lib.hid hrow
  have HQ := Lib.hid hq
  clear hrow hq
  go_enter Tryd.func59, Tryd.ntmps59
  go_wp2_with fail
  go_loopw [8] (fun i wr => L59_40 q n w i wr) (fun i _ => n - (intOf i).toNat)
  case atStart => exact ⟨0, rfl, Nat.zero_le _, fun j hj => absurd hj (Nat.not_lt_zero _), St.refl gl⟩
  case round =>
    obtain ⟨k, rfl, hk, hno, hs⟩ := hrel
    have HNO := Lib.hid hno
    have HS := Lib.hid hs
    clear hno hs
    by_cases hlt : k < n
    · have t1 : decide (k < n) = true := decide_eq_true hlt
      have t2 : (k : Int) < n := by omega
      obtain ⟨p, hp⟩ : ∃ p, ps[k]? = some p := ⟨ps[k]'(by omega), List.getElem?_eq_getElem (by omega)⟩
      have hcl : ∃ g, a = some ⟨g, 0, none⟩ ∧ wr.cell? ⟨g, k, none⟩ = some (ptr p) := row_ptr (below_row HROW.out HS.out.b) hp
      obtain ⟨g, rfl, hcell⟩ := hcl
      have HP := Lib.hid hp
      clear hp
      unfold ptr at hcell
      go_wp2_with fail
      refine (HQ.out k p _ HP.out HS.out).mono ?_
      rintro e w2 ⟨he, hb⟩
      have HB := Lib.hid (HS.out.to hb)
      clear hb hcell
      cases hqk : q k
      · rw [hqk] at he
        subst he
        have HQK := Lib.hid hqk
        clear hqk
        go_wp2_with fail
        go_roundw
        case rel => exact ⟨k + 1, by go_num, by omega, fun j hj => by rcases Nat.lt_succ_iff_lt_or_eq.1 hj with h | h; exact HNO.out j h; subst h; exact HQK.out, HB.out⟩
        case measure => simp [intOf]; omega
      · rw [hqk] at he
        subst he
        have HQK := Lib.hid (idx_at hlt hqk HNO.out)
        clear hqk
        go_wp2_with fail
        go_ret
        exact ⟨by rw [HQK.out]; rfl, HB.out⟩
    · have t1 : decide (k < n) = false := decide_eq_false hlt
      have t3 : ¬ ((k : Int) < n) := by omega
      obtain rfl : k = n := by omega
      have HQK := Lib.hid (idx_no HNO.out)
      go_wp2_with fail
      go_ret
      exact ⟨by rw [HQK.out]; rfl, HS.out⟩

def L59_44 (q : Nat → Bool) (n : Nat) (w : World) (i : Value) (wr : World) : Prop := ∃ k : Nat, i = .int .i64 k ∧ k ≤ n ∧ (∀ j, j < k → q j = false) ∧ St w wr
set_option maxRecDepth 100000 in
theorem index44_any (v : Value) (ps : List Nat) (n : Nat) (q : Nat → Bool) (C0 : Value) (w : World) (gl : Gl w) (hrow : w.ownsRow 0 66 1 v n (ps.map ptr))
    (hq : ∀ (i p : Nat) (W : World), ps[i]? = some p → St w W → Calls Tryd.prog 44 #[ptr p, C0] W fun e W' => e = .returned (.bool (q i)) ∧ St W W') :
    Calls Tryd.prog 59 #[v, .func (.func 44) #[] #[C0]] w fun e w' => e = .returned (.int .i64 (idx q n)) ∧ St w w' := by
  obtain ⟨a, c, rfl⟩ := own_slice hrow
  have hn := own_len hrow
  simp only [maxLen] at hn
  have hl : ps.length = n := by have := hrow.1; simpa using this
  have HROW := Lib.hid hrow
  have HQ := Lib.hid hq
  clear hrow hq
  go_enter Tryd.func59, Tryd.ntmps59
  go_wp2_with fail
  go_loopw [8] (fun i wr => L59_44 q n w i wr) (fun i _ => n - (intOf i).toNat)
  case atStart => exact ⟨0, rfl, Nat.zero_le _, fun j hj => absurd hj (Nat.not_lt_zero _), St.refl gl⟩
  case round =>
    obtain ⟨k, rfl, hk, hno, hs⟩ := hrel
    have HNO := Lib.hid hno
    have HS := Lib.hid hs
    clear hno hs
    by_cases hlt : k < n
    · have t1 : decide (k < n) = true := decide_eq_true hlt
      have t2 : (k : Int) < n := by omega
      obtain ⟨p, hp⟩ : ∃ p, ps[k]? = some p := ⟨ps[k]'(by omega), List.getElem?_eq_getElem (by omega)⟩
      have hcl : ∃ g, a = some ⟨g, 0, none⟩ ∧ wr.cell? ⟨g, k, none⟩ = some (ptr p) := row_ptr (below_row HROW.out HS.out.b) hp
      obtain ⟨g, rfl, hcell⟩ := hcl
      have HP := Lib.hid hp
      clear hp
      unfold ptr at hcell
      go_wp2_with fail
      refine (HQ.out k p _ HP.out HS.out).mono ?_
      rintro e w2 ⟨he, hb⟩
      have HB := Lib.hid (HS.out.to hb)
      clear hb hcell
      cases hqk : q k
      · rw [hqk] at he
        subst he
        have HQK := Lib.hid hqk
        clear hqk
        go_wp2_with fail
        go_roundw
        case rel => exact ⟨k + 1, by go_num, by omega, fun j hj => by rcases Nat.lt_succ_iff_lt_or_eq.1 hj with h | h; exact HNO.out j h; subst h; exact HQK.out, HB.out⟩
        case measure => simp [intOf]; omega
      · rw [hqk] at he
        subst he
        have HQK := Lib.hid (idx_at hlt hqk HNO.out)
        clear hqk
        go_wp2_with fail
        go_ret
        exact ⟨by rw [HQK.out]; rfl, HB.out⟩
    · have t1 : decide (k < n) = false := decide_eq_false hlt
      have t3 : ¬ ((k : Int) < n) := by omega
      obtain rfl : k = n := by omega
      have HQK := Lib.hid (idx_no HNO.out)
      go_wp2_with fail
      go_ret
      exact ⟨by rw [HQK.out]; rfl, HS.out⟩

def L59_60 (q : Nat → Bool) (n : Nat) (w : World) (i : Value) (wr : World) : Prop := ∃ k : Nat, i = .int .i64 k ∧ k ≤ n ∧ (∀ j, j < k → q j = false) ∧ St w wr
set_option maxRecDepth 100000 in
theorem index60_any (v : Value) (ps : List Nat) (n : Nat) (q : Nat → Bool) (C0 : Value) (w : World) (gl : Gl w) (hrow : w.ownsRow 0 66 1 v n (ps.map ptr))
    (hq : ∀ (i p : Nat) (W : World), ps[i]? = some p → St w W → Calls Tryd.prog 60 #[ptr p, C0] W fun e W' => e = .returned (.bool (q i)) ∧ St W W') :
    Calls Tryd.prog 59 #[v, .func (.func 60) #[] #[C0]] w fun e w' => e = .returned (.int .i64 (idx q n)) ∧ St w w' := by
  obtain ⟨a, c, rfl⟩ := own_slice hrow
  have hn := own_len hrow
  simp only [maxLen] at hn
  have hl : ps.length = n := by have := hrow.1; simpa using this
  have HROW := Lib.hid hrow
  have HQ := Lib.hid hq
  clear hrow hq
  go_enter Tryd.func59, Tryd.ntmps59
  go_wp2_with fail
  go_loopw [8] (fun i wr => L59_60 q n w i wr) (fun i _ => n - (intOf i).toNat)
  case atStart => exact ⟨0, rfl, Nat.zero_le _, fun j hj => absurd hj (Nat.not_lt_zero _), St.refl gl⟩
  case round =>
    obtain ⟨k, rfl, hk, hno, hs⟩ := hrel
    have HNO := Lib.hid hno
    have HS := Lib.hid hs
    clear hno hs
    by_cases hlt : k < n
    · have t1 : decide (k < n) = true := decide_eq_true hlt
      have t2 : (k : Int) < n := by omega
      obtain ⟨p, hp⟩ : ∃ p, ps[k]? = some p := ⟨ps[k]'(by omega), List.getElem?_eq_getElem (by omega)⟩
      have hcl : ∃ g, a = some ⟨g, 0, none⟩ ∧ wr.cell? ⟨g, k, none⟩ = some (ptr p) := row_ptr (below_row HROW.out HS.out.b) hp
      obtain ⟨g, rfl, hcell⟩ := hcl
      have HP := Lib.hid hp
      clear hp
      unfold ptr at hcell
      go_wp2_with fail
      refine (HQ.out k p _ HP.out HS.out).mono ?_
      rintro e w2 ⟨he, hb⟩
      have HB := Lib.hid (HS.out.to hb)
      clear hb hcell
      cases hqk : q k
      · rw [hqk] at he
        subst he
        have HQK := Lib.hid hqk
        clear hqk
        go_wp2_with fail
        go_roundw
        case rel => exact ⟨k + 1, by go_num, by omega, fun j hj => by rcases Nat.lt_succ_iff_lt_or_eq.1 hj with h | h; exact HNO.out j h; subst h; exact HQK.out, HB.out⟩
        case measure => simp [intOf]; omega
      · rw [hqk] at he
        subst he
        have HQK := Lib.hid (idx_at hlt hqk HNO.out)
        clear hqk
        go_wp2_with fail
        go_ret
        exact ⟨by rw [HQK.out]; rfl, HB.out⟩
    · have t1 : decide (k < n) = false := decide_eq_false hlt
      have t3 : ¬ ((k : Int) < n) := by omega
      obtain rfl : k = n := by omega
      have HQK := Lib.hid (idx_no HNO.out)
      go_wp2_with fail
      go_ret
      exact ⟨by rw [HQK.out]; rfl, HS.out⟩

def L59_42 (q : Nat → Bool) (n : Nat) (w : World) (i : Value) (wr : World) : Prop := ∃ k : Nat, i = .int .i64 k ∧ k ≤ n ∧ (∀ j, j < k → q j = false) ∧ St w wr
set_option maxRecDepth 100000 in
theorem index42_any (v : Value) (ps : List Nat) (n : Nat) (q : Nat → Bool) (C0 : Value) (w : World) (gl : Gl w) (hrow : w.ownsRow 0 66 1 v n (ps.map ptr))
    (hq : ∀ (i p : Nat) (W : World), ps[i]? = some p → St w W → Calls Tryd.prog 42 #[ptr p, C0] W fun e W' => e = .returned (.bool (q i)) ∧ St W W') :
    Calls Tryd.prog 59 #[v, .func (.func 42) #[] #[C0]] w fun e w' => e = .returned (.int .i64 (idx q n)) ∧ St w w' := by
  obtain ⟨a, c, rfl⟩ := own_slice hrow
  have hn := own_len hrow
  simp only [maxLen] at hn
  have hl : ps.length = n := by have := hrow.1; simpa using this
  have HROW := Lib.hid hrow
  have HQ := Lib.hid hq
  clear hrow hq
  go_enter Tryd.func59, Tryd.ntmps59
  go_wp2_with fail
  go_loopw [8] (fun i wr => L59_42 q n w i wr) (fun i _ => n - (intOf i).toNat)
  case atStart => exact ⟨0, rfl, Nat.zero_le _, fun j hj => absurd hj (Nat.not_lt_zero _), St.refl gl⟩
  case round =>
    obtain ⟨k, rfl, hk, hno, hs⟩ := hrel
    have HNO := Lib.hid hno
    have HS := Lib.hid hs
    clear hno hs
    by_cases hlt : k < n
    · have t1 : decide (k < n) = true := decide_eq_true hlt
      have t2 : (k : Int) < n := by omega
      obtain ⟨p, hp⟩ : ∃ p, ps[k]? = some p := ⟨ps[k]'(by omega), List.getElem?_eq_getElem (by omega)⟩
      have hcl : ∃ g, a = some ⟨g, 0, none⟩ ∧ wr.cell? ⟨g, k, none⟩ = some (ptr p) := row_ptr (below_row HROW.out HS.out.b) hp
      obtain ⟨g, rfl, hcell⟩ := hcl
      have HP := Lib.hid hp
      clear hp
      unfold ptr at hcell
      go_wp2_with fail
      refine (HQ.out k p _ HP.out HS.out).mono ?_
      rintro e w2 ⟨he, hb⟩
      have HB := Lib.hid (HS.out.to hb)
      clear hb hcell
      cases hqk : q k
      · rw [hqk] at he
        subst he
        have HQK := Lib.hid hqk
        clear hqk
        go_wp2_with fail
        go_roundw
        case rel => exact ⟨k + 1, by go_num, by omega, fun j hj => by rcases Nat.lt_succ_iff_lt_or_eq.1 hj with h | h; exact HNO.out j h; subst h; exact HQK.out, HB.out⟩
        case measure => simp [intOf]; omega
      · rw [hqk] at he
        subst he
        have HQK := Lib.hid (idx_at hlt hqk HNO.out)
        clear hqk
        go_wp2_with fail
        go_ret
        exact ⟨by rw [HQK.out]; rfl, HB.out⟩
    · have t1 : decide (k < n) = false := decide_eq_false hlt
      have t3 : ¬ ((k : Int) < n) := by omega
      obtain rfl : k = n := by omega
      have HQK := Lib.hid (idx_no HNO.out)
      go_wp2_with fail
      go_ret
      exact ⟨by rw [HQK.out]; rfl, HS.out⟩

def L59_38 (q : Nat → Bool) (n : Nat) (w : World) (i : Value) (wr : World) : Prop := ∃ k : Nat, i = .int .i64 k ∧ k ≤ n ∧ (∀ j, j < k → q j = false) ∧ St w wr
set_option maxRecDepth 100000 in
theorem index38_any (v : Value) (ps : List Nat) (n : Nat) (q : Nat → Bool) (C0 : Value) (w : World) (gl : Gl w) (hrow : w.ownsRow 0 66 1 v n (ps.map ptr))
    (hq : ∀ (i p : Nat) (W : World), ps[i]? = some p → St w W → Calls Tryd.prog 38 #[ptr p, C0] W fun e W' => e = .returned (.bool (q i)) ∧ St W W') :
    Calls Tryd.prog 59 #[v, .func (.func 38) #[] #[C0]] w fun e w' => e = .returned (.int .i64 (idx q n)) ∧ St w w' := by
  obtain ⟨a, c, rfl⟩ := own_slice hrow
  have hn := own_len hrow
  simp only [maxLen] at hn
  have hl : ps.length = n := by have := hrow.1; simpa using this
  have HROW := Lib.hid hrow
  have HQ := Lib.hid hq
  clear hrow hq
  go_enter Tryd.func59, Tryd.ntmps59
  go_wp2_with fail
  go_loopw [8] (fun i wr => L59_38 q n w i wr) (fun i _ => n - (intOf i).toNat)
  case atStart => exact ⟨0, rfl, Nat.zero_le _, fun j hj => absurd hj (Nat.not_lt_zero _), St.refl gl⟩
  case round =>
    obtain ⟨k, rfl, hk, hno, hs⟩ := hrel
    have HNO := Lib.hid hno
    have HS := Lib.hid hs
    clear hno hs
    by_cases hlt : k < n
    · have t1 : decide (k < n) = true := decide_eq_true hlt
      have t2 : (k : Int) < n := by omega
      obtain ⟨p, hp⟩ : ∃ p, ps[k]? = some p := ⟨ps[k]'(by omega), List.getElem?_eq_getElem (by omega)⟩
      have hcl : ∃ g, a = some ⟨g, 0, none⟩ ∧ wr.cell? ⟨g, k, none⟩ = some (ptr p) := row_ptr (below_row HROW.out HS.out.b) hp
      obtain ⟨g, rfl, hcell⟩ := hcl
      have HP := Lib.hid hp
      clear hp
      unfold ptr at hcell
      go_wp2_with fail
      refine (HQ.out k p _ HP.out HS.out).mono ?_
      rintro e w2 ⟨he, hb⟩
      have HB := Lib.hid (HS.out.to hb)
      clear hb hcell
      cases hqk : q k
      · rw [hqk] at he
        subst he
        have HQK := Lib.hid hqk
        clear hqk
        go_wp2_with fail
        go_roundw
        case rel => exact ⟨k + 1, by go_num, by omega, fun j hj => by rcases Nat.lt_succ_iff_lt_or_eq.1 hj with h | h; exact HNO.out j h; subst h; exact HQK.out, HB.out⟩
        case measure => simp [intOf]; omega
      · rw [hqk] at he
        subst he
        have HQK := Lib.hid (idx_at hlt hqk HNO.out)
        clear hqk
        go_wp2_with fail
        go_ret
        exact ⟨by rw [HQK.out]; rfl, HB.out⟩
    · have t1 : decide (k < n) = false := decide_eq_false hlt
      have t3 : ¬ ((k : Int) < n) := by omega
      obtain rfl : k = n := by omega
      have HQK := Lib.hid (idx_no HNO.out)
      go_wp2_with fail
      go_ret
      exact ⟨by rw [HQK.out]; rfl, HS.out⟩
end Lk
end Go.Proofs.YtogcjflneedcfaaDoor

namespace Go.Proofs.YtogcjflneedcfaaDoor
open Go.RowKit Md
set_option linter.unusedVariables false
set_option linter.unusedSimpArgs false
namespace Lk

def anyB (q : Nat → Bool) (n : Nat) : Bool := (List.range n).any q
theorem idx_any (q : Nat → Bool) (n : Nat) : decide (0 ≤ idx q n) = anyB q n := by
  rcases idx_cases q n with ⟨k, h1, h2, _, h4⟩ | ⟨h1, h2⟩
  · rw [h4]
    have : anyB q n = true := List.any_eq_true.2 ⟨k, List.mem_range.2 h1, h2⟩
    rw [this]
    exact decide_eq_true (by omega)
  · rw [h2]
    have : anyB q n = false := by
      unfold anyB
      rw [List.any_eq_false]
      intro x hx
      rw [h1 x (List.mem_range.1 hx)]
      exact Bool.false_ne_true
    rw [this]
    exact decide_eq_false (by omega)

theorem contains40_any (v : Value) (ps : List Nat) (n : Nat) (q : Nat → Bool) (C0 C1 C2 : Value) (w : World) (gl : Gl w) (hrow : w.ownsRow 0 66 1 v n (ps.map ptr))
    (hq : ∀ (i p : Nat) (W : World), ps[i]? = some p → St w W → Calls Tryd.prog 40 #[ptr p, C0, C1, C2] W fun e W' => e = .returned (.bool (q i)) ∧ St W W') :
    Calls Tryd.prog 39 #[v, .func (.func 40) #[] #[C0, C1, C2]] w fun e w' => e = .returned (.bool (anyB q n)) ∧ St w w' := by
  have hi := index40_any v ps n q C0 C1 C2 w gl hrow hq
  obtain ⟨a, c, rfl⟩ := own_slice hrow
  have ht := Lib.hid (idx_any q n)
  clear hrow hq
  generalize idx q n = z at hi ht
  go_enter Tryd.func39, Tryd.ntmps39
  go_wp2_with (go_at_call 59; refine hi.mono ?_; clear hi; rintro e w2 ⟨rfl, hb⟩)
  go_ret
  exact ⟨by rw [← ht.out]; rfl, hb⟩

theorem contains44_any (v : Value) (ps : List Nat) (n : Nat) (q : Nat → Bool) (C0 : Value) (w : World) (gl : Gl w) (hrow : w.ownsRow 0 66 1 v n (ps.map ptr))
    (hq : ∀ (i p : Nat) (W : World), ps[i]? = some p → St w W → Calls Tryd.prog 44 #[ptr p, C0] W fun e W' => e = .returned (.bool (q i)) ∧ St W W') :
    Calls Tryd.prog 39 #[v, .func (.func 44) #[] #[C0]] w fun e w' => e = .returned (.bool (anyB q n)) ∧ St w w' := by
  have hi := index44_any v ps n q C0 w gl hrow hq
  obtain ⟨a, c, rfl⟩ := own_slice hrow
  have ht := Lib.hid (idx_any q n)
  clear hrow hq
  generalize idx q n = z at hi ht
  go_enter Tryd.func39, Tryd.ntmps39
  go_wp2_with (go_at_call 59; refine hi.mono ?_; clear hi; rintro e w2 ⟨rfl, hb⟩)
  go_ret
  exact ⟨by rw [← ht.out]; rfl, hb⟩

theorem waits_nil (tx : Int) (w : World) (gl : Gl w) : Calls Tryd.prog 20 #[.pointer none, .int .i64 tx] w fun e w' => e = .returned (.bool false) ∧ St w w' := by
  go_enter Tryd.func20, Tryd.ntmps20
  go_wp2
  go_ret
  exact ⟨rfl, (St.refl gl).alloc _⟩
/-- does a transaction wait? -/
def waitsB (T : List Rq) (tx : Int) : Bool := anyB (fun i => match T[i]? with | some r => r.tx == tx && !r.g | none => false) T.length
def hasB (T : List Rq) (tx : Int) (o : Ob) (m : Int) : Bool := anyB (fun i => match T[i]? with | some r => holds r tx o m | none => false) T.length
theorem TabAt.at {w : World} {D : Nat} {v : Value} {ps : List Nat} {T : List Rq} {most : Int} (h : TabAt w D v ps T most) {i p : Nat} (hp : ps[i]? = some p) : ∃ r, T[i]? = some r ∧ IsRq w p r := by
  have hi : i < T.length := by have := (List.getElem?_eq_some_iff.1 hp).1; rw [h.len] at this; exact this
  exact ⟨T[i], List.getElem?_eq_getElem hi, h.rq i p _ hp (List.getElem?_eq_getElem hi)⟩
theorem waits_any (D : Nat) (v : Value) (ps : List Nat) (T : List Rq) (most : Int) (tx : Int) (w : World) (gl : Gl w) (ht : TabAt w D v ps T most) : Calls Tryd.prog 20 #[ptr D, .int .i64 tx] w fun e w' => e = .returned (.bool (waitsB T tx)) ∧ St w w' := by
  have hs : St w (w.alloc (.cells #[.int .i64 tx] 3)) := (St.refl gl).alloc _
  have hb0 := new_at w (.cells #[.int .i64 tx] 3)
  have ht2 := ht.below hs.b
  have hd : (w.alloc (.cells #[.int .i64 tx] 3)).cell? ⟨D, 1, none⟩ = some v := (blk_cell ht2.d 1).trans rfl
  have hc := contains44_any v ps T.length (fun i => match T[i]? with | some r => r.tx == tx && !r.g | none => false) (ptr w.heap.size) _ hs.gl ht2.row (fun i p W hp hW => by
    obtain ⟨r, h1, h2⟩ := ht2.at hp
    have h3 : W.cell? ⟨w.heap.size, 0, none⟩ = some (.int .i64 tx) := (hW.b.cell (by simp)).trans ((blk_cell hb0 0).trans rfl)
    simp only [h1]
    refine (waits1_any p w.heap.size r tx W (h2.below hW.b) h3).mono ?_
    rintro e w2 ⟨rfl, n, rfl⟩
    exact ⟨rfl, (St.refl hW.gl).drewN n⟩)
  obtain ⟨a, c, rfl⟩ := own_slice ht.row
  have HS := Lib.hid hs
  clear ht ht2 hb0 hs
  unfold ptr at *
  unfold waitsB
  go_enter Tryd.func20, Tryd.ntmps20
  go_wp2_with (go_at_call 39; refine hc.mono ?_; clear hc; rintro e w2 ⟨rfl, hb⟩)
  go_ret
  exact ⟨rfl, HS.out.to hb⟩
theorem has_nil (tx : Int) (o : Ob) (m : Int) (w : World) (gl : Gl w) : Calls Tryd.prog 17 #[.pointer none, .int .i64 tx, .agg #[.int .i64 o.s, .string o.t, .string o.l, .string o.u, .bool o.e], .int .i64 m] w fun e w' => e = .returned (.bool false) ∧ St w w' := by
  go_enter Tryd.func17, Tryd.ntmps17
  go_wp2
  go_ret
  exact ⟨rfl, (((St.refl gl).alloc _).alloc _).alloc _⟩
theorem has_any (D : Nat) (v : Value) (ps : List Nat) (T : List Rq) (most : Int) (tx : Int) (o : Ob) (m : Int) (w : World) (gl : Gl w) (ht : TabAt w D v ps T most) : Calls Tryd.prog 17 #[ptr D, .int .i64 tx, .agg #[.int .i64 o.s, .string o.t, .string o.l, .string o.u, .bool o.e], .int .i64 m] w fun e w' => e = .returned (.bool (hasB T tx o m)) ∧ St w w' := by
  obtain ⟨wa, hwa⟩ : ∃ wa, w.alloc (.cells #[.int .i64 tx] 3) = wa := ⟨_, rfl⟩
  obtain ⟨wb, hwb⟩ : ∃ wb, wa.alloc (.cells #[.int .i64 o.s, .string o.t, .string o.l, .string o.u, .bool o.e] 30) = wb := ⟨_, rfl⟩
  obtain ⟨wc, hwc⟩ : ∃ wc, wb.alloc (.cells #[.int .i64 m] 31) = wc := ⟨_, rfl⟩
  have hsa : St w wa := by rw [← hwa]; exact (St.refl gl).alloc _
  have hsb : St wa wb := by rw [← hwb]; exact (St.refl hsa.gl).alloc _
  have hsc : St wb wc := by rw [← hwc]; exact (St.refl hsb.gl).alloc _
  have za : wa.heap.size = w.heap.size + 1 := by rw [← hwa]; simp
  have zb : wb.heap.size = w.heap.size + 1 + 1 := by rw [← hwb]; simp [za]
  have b0 : wa.heap[w.heap.size]? = some (.cells #[.int .i64 tx] 3 (0, 0)) := by rw [← hwa]; exact new_at _ _
  have b1 : wb.heap[w.heap.size + 1]? = some (.cells #[.int .i64 o.s, .string o.t, .string o.l, .string o.u, .bool o.e] 30 (0, 0)) := by rw [← hwb, ← za]; exact new_at _ _
  have b2 : wc.heap[w.heap.size + 1 + 1]? = some (.cells #[.int .i64 m] 31 (0, 0)) := by rw [← hwc, ← zb]; exact new_at _ _
  have hs : St w wc := (hsa.to hsb).to hsc
  have ht2 := ht.below hs.b
  have hd : wc.cell? ⟨D, 1, none⟩ = some v := (blk_cell ht2.d 1).trans rfl
  have c0 : wc.heap[w.heap.size]? = some (.cells #[.int .i64 tx] 3 (0, 0)) := ((hsb.to hsc).b.block _ (by omega)).trans b0
  have c1 : wc.heap[w.heap.size + 1]? = some (.cells #[.int .i64 o.s, .string o.t, .string o.l, .string o.u, .bool o.e] 30 (0, 0)) := (hsc.b.block _ (by omega)).trans b1
  have hz := hsc.b.size
  have zc : wc.heap.size = w.heap.size + 1 + 1 + 1 := by rw [← hwc]; simp [zb]
  have hc := contains40_any v ps T.length (fun i => match T[i]? with | some r => holds r tx o m | none => false) (ptr w.heap.size) (ptr (w.heap.size + 1)) (ptr (w.heap.size + 1 + 1)) _ hs.gl ht2.row (fun i p W hp hW => by
    obtain ⟨r, h1, h2⟩ := ht2.at hp
    have h3 : W.cell? ⟨w.heap.size, 0, none⟩ = some (.int .i64 tx) := (blk_cell ((hW.b.block _ (by omega)).trans c0) 0).trans rfl
    have h4 : W.heap[w.heap.size + 1]? = some (.cells #[.int .i64 o.s, .string o.t, .string o.l, .string o.u, .bool o.e] 30 (0, 0)) := (hW.b.block _ (by omega)).trans c1
    have h5 : W.cell? ⟨w.heap.size + 1 + 1, 0, none⟩ = some (.int .i64 m) := (blk_cell ((hW.b.block _ (by omega)).trans b2) 0).trans rfl
    simp only [h1]
    exact has1_any p w.heap.size (w.heap.size + 1) (w.heap.size + 1 + 1) r tx o m W hW.gl (h2.below hW.b) h3 h4 h5)
  obtain ⟨a, c, rfl⟩ := own_slice ht.row
  have HS := Lib.hid hs
  rw [← hwc, ← hwb, ← hwa] at hc HS hd
  clear ht ht2 hs hsa hsb hsc hwa hwb hwc za zb zc hz b0 b1 b2 c0 c1
  unfold ptr at *
  unfold hasB
  go_enter Tryd.func17, Tryd.ntmps17
  go_wp2_with (go_at_call 39; refine hc.mono ?_; clear hc; rintro e w2 ⟨rfl, hb⟩)
  go_ret
  exact ⟨rfl, HS.out.to hb⟩
end Lk
end Go.Proofs.YtogcjflneedcfaaDoor

namespace Go.Proofs.YtogcjflneedcfaaDoor
open Go.RowKit Md Go.Shelf Go.Proofs.YtogcjflneedcfaaDoorW.PrintWords
set_option linter.unusedVariables false
set_option linter.unusedSimpArgs false
namespace Lk

attribute [local go_sem] Oper.semAt_some
theorem eqA30 (d : Nat) (w : World) (x0 y0 : Int) (x1 y1 : ByteArray) (x2 y2 : ByteArray) (x3 y3 : ByteArray) (x4 y4 : Bool) :
    (Op.equalIn (d + 2) 30 (.agg #[.int .i64 x0, .string x1, .string x2, .string x3, .bool x4]) (.agg #[.int .i64 y0, .string y1, .string y2, .string y3, .bool y4])).run Tryd.prog w = .ok (x0 == y0 && (x1.toList == y1.toList && (x2.toList == y2.toList && (x3.toList == y3.toList && (x4 == y4))))) w := by
  refine eqA_of Tryd.underlying30 (by kernel_rfl) ?_
  refine eqf_cons (by rfl) (by go_simp; rfl) (by go_simp; rfl) (by go_simp) ?_
  refine eqf_cons (by rfl) (by go_simp; rfl) (by go_simp; rfl) (by go_simp) ?_
  refine eqf_cons (by rfl) (by go_simp; rfl) (by go_simp; rfl) (by go_simp) ?_
  refine eqf_cons (by rfl) (by go_simp; rfl) (by go_simp; rfl) (by go_simp) ?_
  exact eqf_last (by rfl) (by go_simp; rfl) (by go_simp; rfl) (by go_simp)
def obEq (a b : Ob) : Bool := a.s == b.s && (a.t.toList == b.t.toList && (a.l.toList == b.l.toList && (a.u.toList == b.u.toList && (a.e == b.e))))
theorem bytes_ext {a b : ByteArray} (h : a.toList = b.toList) : a = b := by
  rw [Lib.toList_data, Lib.toList_data] at h
  cases a; cases b; simp at h; subst h; rfl
theorem obEq_iff (a b : Ob) : obEq a b = true ↔ a = b := by
  constructor
  · intro h
    simp [obEq] at h
    obtain ⟨h1, h2, h3, h4, h5⟩ := h
    obtain ⟨s, t, l, u, e⟩ := a
    obtain ⟨s', t', l', u', e'⟩ := b
    simp only at h1 h2 h3 h4 h5
    rw [h1, bytes_ext h2, bytes_ext h3, bytes_ext h4, h5]
  · rintro rfl
    simp [obEq]
theorem run_ob (a b : Ob) (w : World) : (binOp .eql 30 (.agg #[.int .i64 a.s, .string a.t, .string a.l, .string a.u, .bool a.e]) (.agg #[.int .i64 b.s, .string b.t, .string b.l, .string b.u, .bool b.e])).run Tryd.prog w = .ok (.bool (obEq a b)) w := by
  rw [run_eql_struct, eqA30 9998 w]
  rfl
theorem run_ptr_same (p : Nat) (w : World) : (binOp .eql 66 (.pointer (some ⟨p, 0, none⟩)) (.pointer (some ⟨p, 0, none⟩))).run Tryd.prog w = .ok (.bool true) w := by
  have hi : (Tryd.prog.info? 33).map (fun j => j.size) = some 9 := by kernel_rfl
  obtain ⟨j, hj, hz⟩ := Option.map_eq_some_iff.1 hi
  exact run_eql_ptr_same w _ Tryd.underlying66 hj
theorem run_ptr_other {p q : Nat} {g r : Rq} {w : World} (hp : IsRq w p g) (hq : IsRq w q r) (hne : p ≠ q) : (binOp .eql 66 (.pointer (some ⟨p, 0, none⟩)) (.pointer (some ⟨q, 0, none⟩))).run Tryd.prog w = .ok (.bool false) w := by
  have hi : (Tryd.prog.info? 33).map (fun j => j.size) = some 9 := by kernel_rfl
  obtain ⟨j, hj, hz⟩ := Option.map_eq_some_iff.1 hi
  exact run_eql_ptr_other w Tryd.underlying66 hj (by rw [hz]; decide) (by intro h; injection h with h1; exact hne h1) hp hq
/-- does the transaction of the request at i have just that object, ahead of it? -/
def ownQ (T : List Rq) (i : Nat) (k : Nat) : Bool := decide (k < i) && match T[k]?, T[i]? with
  | some g, some r => g.g && g.tx == r.tx && obEq g.o r.o
  | _, _ => false
def ownB (T : List Rq) (i : Nat) : Bool := anyB (ownQ T i) T.length
/-- does the request at k keep the one at i from being granted? -/
def blk (T : List Rq) (i k : Nat) : Bool := match T[k]?, T[i]? with
  | some g, some r => if k = i then false else if g.g then clash g r else !(decide (i < k) || ownB T i || (!clash g r && !clash r g))
  | _, _ => false
def bls (T : List Rq) (ps : List Nat) (i n : Nat) : List Nat := ((List.range n).filter (blk T i)).map fun k => ps.getD k 0
theorem bls_succ (T : List Rq) (ps : List Nat) (i n : Nat) : bls T ps i (n + 1) = bls T ps i n ++ (if blk T i n then [ps.getD n 0] else []) := by
  unfold bls
  rw [List.range_succ, List.filter_append, List.map_append]
  cases h : blk T i n <;> simp [h]
theorem bls_pre (T : List Rq) (ps : List Nat) (i : Nat) {n m : Nat} (h : n ≤ m) : bls T ps i n <+: bls T ps i m := by
  induction m with
  | zero =>
    obtain rfl : n = 0 := by omega
    exact List.prefix_refl _
  | succ m ih =>
    by_cases e : n = m + 1
    · subst e; exact List.prefix_refl _
    · exact (ih (by omega)).trans (by rw [bls_succ]; exact List.prefix_append _ _)
theorem anyB_succ (q : Nat → Bool) (n : Nat) : anyB q (n + 1) = (anyB q n || q n) := by simp [anyB, List.range_succ]
/-- what a round of the loop over the blockers keeps: what lay when w0 was, and the box of the request -/
def KpB (w0 : World) (BR : Nat) (W W' : World) : Prop := Below w0.heap.size W W' ∧ ∀ o, W.heap[BR]? = some o → W'.heap[BR]? = some o
theorem KpB.t {w0 : World} {BR : Nat} {A B C : World} (h : KpB w0 BR A B) (k : KpB w0 BR B C) : KpB w0 BR A C := ⟨h.1.trans k.1, fun o ho => k.2 o (h.2 o ho)⟩
theorem from_below {β : Type} {B : Nat} {J : β → World → Prop} (h : AbidesFrom B J) {s : β} {W W' : World} (hs : J s W) (hb : Below W.heap.size W W') : J s W' :=
  h s W W' none hs ⟨hb.os, hb.tape, hb.output, hb.size, fun k hk _ => hb.block k hk⟩ (fun r e => by cases e)
end Lk
end Go.Proofs.YtogcjflneedcfaaDoor

namespace Go.Proofs.YtogcjflneedcfaaDoor
open Go.RowKit Md Go.Shelf
set_option linter.unusedVariables false
set_option linter.unusedSimpArgs false
namespace Lk

attribute [local go_sem] Oper.semAt_some
theorem undef_no {b : Bool} (h : some undef = some (Value.bool b)) : False := by simp [undef] at h
def LB1 (T : List Rq) (i : Nat) (W : World) (own beh : Value) (k : Value) (wr : World) : Prop := ∃ m : Nat, k = .int .i64 m ∧ m ≤ T.length ∧ own = .bool (anyB (ownQ T i) m) ∧ beh = .bool (decide (i < m)) ∧ Below W.heap.size W wr
def LB2 (T : List Rq) (ps : List Nat) (i p : Nat) (BR : Nat) (w0 : World) (J : List Nat → World → Prop) (beh : Value) (k : Value) (wr : World) : Prop := ∃ m : Nat, k = .int .i64 m ∧ m ≤ T.length ∧ beh = .bool (decide (i < m)) ∧ J (bls T ps i m) wr ∧ St w0 wr ∧ wr.heap[BR]? = some (.cells #[ptr p] 66 (0, 0))
set_option maxHeartbeats 2000000 in
set_option maxRecDepth 100000 in
theorem blk_stops (n : Nat) (hn : 1 ≤ n) (w0 w : World) (D BT BR : Nat) (v : Value) (ps : List Nat) (T : List Rq) (most : Int) (i p : Nat) (gl : Gl w0) (ht : TabAt w0 D v ps T most) (hp : ps[i]? = some p) (hw : Below w0.heap.size w0 w)
    (hBT : w.heap[BT]? = some (.cells #[ptr D] 23 (0, 0))) (hBR : w.heap[BR]? = some (.cells #[ptr p] 66 (0, 0))) :
    SeqStopsK Fence.wide n Tryd.prog 63 #[ptr BT, ptr BR] (fun x => #[ptr x]) (KpB w0 BR) (fun xs => xs = bls T ps i T.length) (fun pre => pre <+: bls T ps i T.length ∧ pre ≠ []) (bls T ps i T.length).length w := by
  intro l J Jx W hW hJ hJx hY h0
  have sW : St w0 W := ⟨hw.trans (hW.mono hw.size), gl⟩
  have hti := ht.below sW.b
  have hbt : W.heap[BT]? = some (.cells #[ptr D] 23 (0, 0)) := (hW.block BT (Array.getElem?_eq_some_iff.1 hBT).1).trans hBT
  have hbr : W.heap[BR]? = some (.cells #[ptr p] 66 (0, 0)) := (hW.block BR (Array.getElem?_eq_some_iff.1 hBR).1).trans hBR
  obtain ⟨ri, hri, _⟩ := ht.at hp
  have hil : i < T.length := (List.getElem?_eq_some_iff.1 hri).1
  have c1 : W.cell? ⟨BT, 0, none⟩ = some (ptr D) := (blk_cell hbt 0).trans rfl
  have cd : W.cell? ⟨D, 1, none⟩ = some v := (blk_cell hti.d 1).trans rfl
  obtain ⟨a, c, rfl⟩ := own_slice hti.row
  have hmax := own_len hti.row
  simp only [maxLen] at hmax
  have hlen := ht.len
  have HT := Lib.hid ht
  have HW0 := Lib.hid sW
  have HBR := Lib.hid hbr
  have HY := Lib.hid hY
  have HJ := Lib.hid hJ
  have HJX := Lib.hid hJx
  have H0 := Lib.hid h0
  have HGL := Lib.hid gl
  clear ht sW hbr hY hJ hJx h0 gl hti hbt hBT hBR hw hW
  have hro : Fence.wide.round = none := rfl
  refine callsIn_of_wp Tryd.func63 rfl trivial ?_ hro
  simp only [Tryd.ntmps63, List.size_toArray, List.length_cons, List.length_nil, Nat.reduceAdd, Nat.reduceSub, Array.replicate_succ, Array.replicate_zero, List.push_toArray, List.append_toArray, List.nil_append, List.cons_append]
  unfold ptr at *
  gi_wp2_with fail
  gi_loopw [4, 5, 15] (fun own beh k wr => LB1 T i W own beh k wr) (fun _ _ k _ => T.length - (intOf k).toNat)
  case atStart => exact ⟨0, rfl, Nat.zero_le _, rfl, by simp, Below.refl _ _⟩
  case round =>
    obtain ⟨m, rfl, hm, rfl, rfl, hb⟩ := hrel
    have HB := Lib.hid hb
    clear hb
    by_cases hlt : m < T.length
    · have t1 : decide (m < T.length) = true := decide_eq_true hlt
      have t2 : (m : Int) < T.length := by omega
      obtain ⟨q, hq⟩ : ∃ q, ps[m]? = some q := ⟨ps[m]'(by omega), List.getElem?_eq_getElem (by omega)⟩
      obtain ⟨g, rfl, hcell⟩ := row_ptr (below_row (HT.out.below HW0.out.b).row HB.out) hq
      unfold ptr at hcell
      obtain ⟨rg, hrg, hgi⟩ := ((HT.out.below HW0.out.b).below HB.out).at hq
      obtain ⟨ri, hri, hii⟩ := ((HT.out.below HW0.out.b).below HB.out).at hp
      have cr : wr.cell? ⟨BR, 0, none⟩ = some (.pointer (some ⟨p, 0, none⟩)) := (blk_cell ((HB.out.block BR (Array.getElem?_eq_some_iff.1 HBR.out).1).trans HBR.out) 0).trans rfl
      obtain ⟨c0, c1, c2, c3, c4, c5, c6, c7, c8⟩ := hgi.cells
      obtain ⟨d0, d1, d2, d3, d4, d5, d6, d7, d8⟩ := hii.cells
      by_cases hqi : m = i
      · subst hqi
        obtain rfl : q = p := by rw [hp] at hq; exact (Option.some.inj hq).symm
        have heq := run_ptr_same q wr
        have hown : ownQ T m m = false := by simp [ownQ]
        have HOWN := Lib.hid (show anyB (ownQ T m) m = anyB (ownQ T m) (m + 1) by rw [anyB_succ, hown, Bool.or_false])
        clear hown hq
        clear c0 c1 c2 c3 c4 c5 c6 c7 c8 d0 d1 d2 d3 d4 d5 d6 d7 d8
        gi_wp2_with fail
        go_roundw
        case rel => exact ⟨m + 1, by go_num, by omega, by rw [HOWN.out], by simp, HB.out⟩
        case measure => simp [intOf]; omega
      · have hpq : q ≠ p := fun e => hqi (by
          subst e
          have h1 := List.getElem?_eq_some_iff.1 hp
          have h2 := List.getElem?_eq_some_iff.1 hq
          obtain ⟨a1, a2⟩ := h1
          obtain ⟨b1, b2⟩ := h2
          exact (List.getElem_inj HT.out.nd).1 (b2.trans a2.symm))
        have heq := run_ptr_other hgi hii hpq
        have HQ := Lib.hid (show ownQ T i m = (decide (m < i) && (rg.g && rg.tx == ri.tx && obEq rg.o ri.o)) by simp [ownQ, hrg, hri])
        clear hq hrg hri hgi hii hpq c8 d6 d7 d8
        have HQI := Lib.hid hqi
        clear hqi
        cases hg : rg.g
        · rw [hg] at c7 HQ
          gi_wp2_with fail
          gi_quiet (fail)
          gi_wp2_with fail
          go_roundw
          case rel => exact ⟨m + 1, by go_num, by omega, by rw [anyB_succ, HQ.out]; simp, by have := HQI.out; first | (have h9 : decide (i < m + 1) = true := decide_eq_true (by omega); rw [h9]; done) | (have h9 : decide (i < m + 1) = false := decide_eq_false (by omega); rw [h9]; done) | (congr 1; exact decide_eq_decide.2 (by omega)), below_drewN HB.out _⟩
          case measure => simp [intOf]; omega
        · rw [hg] at c7 HQ
          by_cases h1 : rg.tx = ri.tx
          · have h2 : decide (rg.tx = ri.tx) = true := decide_eq_true h1
            have h3 : (rg.tx == ri.tx) = true := by simpa using h1
            rw [h3] at HQ
            cases hoe : obEq rg.o ri.o
            · have hob := fun w => run_ob rg.o ri.o w
              simp only [hoe] at hob
              rw [hoe] at HQ
              gi_wp2_with fail
              gi_quiet (fail)
              gi_wp2_with fail
              go_roundw
              case rel => exact ⟨m + 1, by go_num, by omega, by rw [anyB_succ, HQ.out]; simp, by have := HQI.out; first | (have h9 : decide (i < m + 1) = true := decide_eq_true (by omega); rw [h9]; done) | (have h9 : decide (i < m + 1) = false := decide_eq_false (by omega); rw [h9]; done) | (congr 1; exact decide_eq_decide.2 (by omega)), below_drewN HB.out _⟩
              case measure => simp [intOf]; omega
            · have hob := fun w => run_ob rg.o ri.o w
              simp only [hoe] at hob
              rw [hoe] at HQ
              by_cases hbe : i < m
              · have t5 : decide (i < m) = true := decide_eq_true hbe
                rw [t5]
                gi_wp2_with fail
                gi_quiet (fail)
                gi_wp2_with fail
                go_roundw
                case rel => exact ⟨m + 1, by go_num, by omega, by rw [anyB_succ, HQ.out]; have h7 : decide (m < i) = false := decide_eq_false (by omega); rw [h7]; simp, by have := HQI.out; first | (have h9 : decide (i < m + 1) = true := decide_eq_true (by omega); rw [h9]; done) | (have h9 : decide (i < m + 1) = false := decide_eq_false (by omega); rw [h9]; done) | (congr 1; exact decide_eq_decide.2 (by omega)), below_drewN HB.out _⟩
                case measure => simp [intOf]; omega
              · have t5 : decide (i < m) = false := decide_eq_false hbe
                rw [t5]
                gi_wp2_with fail
                gi_quiet (fail)
                gi_wp2_with fail
                go_roundw
                case rel => exact ⟨m + 1, by go_num, by omega, by rw [anyB_succ, HQ.out]; have h7 : decide (m < i) = true := decide_eq_true (by have := HQI.out; omega); rw [h7]; simp, by have := HQI.out; first | (have h9 : decide (i < m + 1) = true := decide_eq_true (by omega); rw [h9]; done) | (have h9 : decide (i < m + 1) = false := decide_eq_false (by omega); rw [h9]; done) | (congr 1; exact decide_eq_decide.2 (by omega)), below_drewN HB.out _⟩
                case measure => simp [intOf]; omega
          · have h2 : decide (rg.tx = ri.tx) = false := decide_eq_false h1
            have h3 : (rg.tx == ri.tx) = false := by simpa using h1
            rw [h3] at HQ
            gi_wp2_with fail
            gi_quiet (fail)
            gi_wp2_with fail
            go_roundw
            case rel => exact ⟨m + 1, by go_num, by omega, by rw [anyB_succ, HQ.out]; simp, by have := HQI.out; first | (have h9 : decide (i < m + 1) = true := decide_eq_true (by omega); rw [h9]; done) | (have h9 : decide (i < m + 1) = false := decide_eq_false (by omega); rw [h9]; done) | (congr 1; exact decide_eq_decide.2 (by omega)), below_drewN HB.out _⟩
            case measure => simp [intOf]; omega
    · have t1 : decide (m < T.length) = false := decide_eq_false hlt
      have t3 : ¬ ((m : Int) < T.length) := by omega
      obtain rfl : m = T.length := by omega
      have HJ0 := Lib.hid (from_below HJ.out H0.out HB.out)
      have HS0 := Lib.hid (show St w0 wr from ⟨HW0.out.b.trans (HB.out.mono HW0.out.b.size), HGL.out⟩)
      have HBR0 := Lib.hid ((HB.out.block BR (Array.getElem?_eq_some_iff.1 HBR.out).1).trans HBR.out)
      have HOW0 := Lib.hid (show anyB (ownQ T i) T.length = ownB T i from rfl)
      have ce : wr.cell? ⟨BT, 0, none⟩ = some (.pointer (some ⟨D, 0, none⟩)) := (HB.out.cell (World.block_lt_of_cell? W _ c1)).trans c1
      have cf : wr.cell? ⟨D, 1, none⟩ = some (.slice a T.length c) := (HB.out.cell (World.block_lt_of_cell? W _ cd)).trans cd
      rw [HOW0.out]
      clear c1 cd HB HW0 HBR H0
      gi_wp2_with fail
      clear ce cf
      gi_loopw [5, 58] (fun beh k wr => LB2 T ps i p BR w0 J beh k wr) (fun _ k _ => T.length - (intOf k).toNat)
      case atStart => exact ⟨0, rfl, Nat.zero_le _, by simp, HJ0.out, HS0.out, HBR0.out⟩
      case round =>
        clear HJ0 HS0 HBR0
        obtain ⟨m, rfl, hm, rfl, hj, hs, hbr⟩ := hrel
        have HJP := Lib.hid hj
        have HS := Lib.hid hs
        have HBR1 := Lib.hid hbr
        clear hj hs hbr
        by_cases hlt : m < T.length
        · have t4 : decide (m < T.length) = true := decide_eq_true hlt
          have t6 : (m : Int) < T.length := by omega
          obtain ⟨q, hq⟩ : ∃ q, ps[m]? = some q := ⟨ps[m]'(by omega), List.getElem?_eq_getElem (by omega)⟩
          obtain ⟨g, rfl, hcell⟩ := row_ptr (HT.out.below HS.out.b).row hq
          unfold ptr at hcell
          obtain ⟨rg, hrg, hgi⟩ := (HT.out.below HS.out.b).at hq
          obtain ⟨ri, hri, hii⟩ := (HT.out.below HS.out.b).at hp
          have HQ := Lib.hid (show ps[m]?.getD 0 = q by rw [hq]; rfl)
          have cr : wr.cell? ⟨BR, 0, none⟩ = some (.pointer (some ⟨p, 0, none⟩)) := (blk_cell HBR1.out 0).trans rfl
          obtain ⟨c0, c1, c2, c3, c4, c5, c6, c7, c8⟩ := hgi.cells
          clear c0 c1 c2 c3 c4 c5 c6 c8
          by_cases hqi : m = i
          · subst hqi
            obtain rfl : q = p := by rw [hp] at hq; exact (Option.some.inj hq).symm
            have heq := run_ptr_same q wr
            have HBK := Lib.hid (show blk T m m = false by simp [blk, hrg])
            have HJ2 := HJP
            have HS2 := HS
            have HBR2 := HBR1
            gi_wp2_with fail
            go_roundw
            case rel => exact ⟨m + 1, by go_num, by omega, by simp, by rw [bls_succ, HBK.out]; simpa using HJ2.out, HS2.out, HBR2.out⟩
            case measure => simp [intOf]; omega
          · have hpq : q ≠ p := fun e => hqi (by
              subst e
              obtain ⟨a1, a2⟩ := List.getElem?_eq_some_iff.1 hp
              obtain ⟨b1, b2⟩ := List.getElem?_eq_some_iff.1 hq
              exact (List.getElem_inj HT.out.nd).1 (b2.trans a2.symm))
            have heq := run_ptr_other hgi hii hpq
            have HB0 := Lib.hid (show blk T i m = if rg.g then clash rg ri else !(decide (i < m) || ownB T i || (!clash rg ri && !clash ri rg)) by simp [blk, hrg, hri, hqi])
            clear hq hrg hri hpq
            have HQI := Lib.hid hqi
            clear hqi
            cases hg : rg.g
            rotate_left
            · rw [hg] at c7 HB0
              gi_wp2_with fail
              refine ⟨trivial, ?_⟩
              refine (callsIn_wide.2 (clash_any q p rg ri _ HS.out.gl hgi hii)).mono ?_
              rintro e w2 ⟨he, hb⟩
              cases hcl : clash rg ri
              · rw [hcl] at HB0
                have HBK := Lib.hid (show blk T i m = false from HB0.out)
                rw [hcl] at he
                subst he
                have HJ2 := Lib.hid (from_below HJ.out HJP.out hb.b)
                have HS2 := Lib.hid (HS.out.to hb)
                have HBR2 := Lib.hid ((hb.b.block BR (Array.getElem?_eq_some_iff.1 HBR1.out).1).trans HBR1.out)
                clear hb
                gi_wp2_with fail
                go_roundw
                case rel => exact ⟨m + 1, by go_num, by omega, by first | (have h9 : decide (i < m + 1) = true := decide_eq_true (by omega); rw [h9]; done) | (have h9 : decide (i < m + 1) = false := decide_eq_false (by have := HQI.out; omega); rw [h9]; done) | (congr 1; exact decide_eq_decide.2 (by have := HQI.out; omega)), by rw [bls_succ, HBK.out]; simpa using HJ2.out, HS2.out, HBR2.out⟩
                case measure => simp [intOf]; omega
              · rw [hcl] at HB0
                have HBK := Lib.hid (show blk T i m = true from HB0.out)
                rw [hcl] at he
                subst he
                have HJ2 := Lib.hid (from_below HJ.out HJP.out hb.b)
                have HS2 := Lib.hid (HS.out.to hb)
                have HBR2 := Lib.hid ((hb.b.block BR (Array.getElem?_eq_some_iff.1 HBR1.out).1).trans HBR1.out)
                have HBP := Lib.hid (show bls T ps i m ++ [q] <+: bls T ps i T.length by have h1 := bls_pre T ps i (show m + 1 ≤ T.length by omega); rw [bls_succ, HBK.out] at h1; simpa [HQ.out] using h1)
                obtain ⟨fn, tmps, assign, body, hy, hR⟩ := HY.out (bls T ps i m) q _ HJ2.out (by have := HBP.out.length_le; simp at this; omega)
                clear hb
                gi_wp2_with (with_reducible refine And.intro (by with_unfolding_all exact trivial) ?_)
                refine hR.mono ?_
                rintro e W3 (⟨rfl, hJ3, hk3⟩ | ⟨rfl, hJx3⟩)
                · have HJ3 := Lib.hid hJ3
                  have HK3 := Lib.hid hk3
                  clear hJ3 hk3 hR hy
                  gi_wp2_with fail
                  go_roundw
                  case rel => exact ⟨m + 1, by go_num, by omega, by first | (have h9 : decide (i < m + 1) = true := decide_eq_true (by omega); rw [h9]; done) | (have h9 : decide (i < m + 1) = false := decide_eq_false (by have := HQI.out; omega); rw [h9]; done) | (congr 1; exact decide_eq_decide.2 (by have := HQI.out; omega)), by rw [bls_succ, HBK.out]; simpa [HQ.out] using HJ3.out, ⟨HS2.out.b.trans HK3.out.1, HS2.out.g⟩, HK3.out.2 _ HBR2.out⟩
                  case measure => simp [intOf]; omega
                · have HJX3 := Lib.hid hJx3
                  clear hJx3 hR hy
                  gi_wp2_with fail
                  refine bodyPost_ret (results_none rfl _ _ _) rfl ?_
                  exact ⟨⟨_, rfl⟩, .inr ⟨bls T ps i m ++ [q], ⟨HBP.out, by simp⟩, HJX3.out⟩⟩
            · rw [hg] at c7 HB0
              by_cases hbe : i < m
              · have t5 : decide (i < m) = true := decide_eq_true hbe
                rw [t5] at HB0 ⊢
                have HBK := Lib.hid (show blk T i m = false from HB0.out.trans (by simp))
                have HJ2 := HJP
                have HS2 := HS
                have HBR2 := HBR1
                gi_wp2_with (with_reducible refine And.intro (by with_unfolding_all exact trivial) ?_)
                all_goals first | exact (undef_no (by assumption)).elim | skip
                exact ⟨⟨m + 1, by go_num, by omega, by first | (have h9 : decide (i < m + 1) = true := decide_eq_true (by omega); rw [h9]; done) | (have h9 : decide (i < m + 1) = false := decide_eq_false (by have := HQI.out; omega); rw [h9]; done) | (congr 1; exact decide_eq_decide.2 (by have := HQI.out; omega)), by rw [bls_succ, HBK.out]; simpa using HJ2.out, HS2.out, HBR2.out⟩, by simp [intOf]; omega⟩
              · have t5 : decide (i < m) = false := decide_eq_false hbe
                rw [t5] at HB0 ⊢
                cases how : ownB T i
                rotate_left
                · rw [how] at HB0
                  have HBK := Lib.hid (show blk T i m = false from HB0.out.trans (by simp))
                  have HJ2 := HJP
                  have HS2 := HS
                  have HBR2 := HBR1
                  gi_wp2_with (with_reducible refine And.intro (by with_unfolding_all exact trivial) ?_)
                  all_goals first | exact (undef_no (by assumption)).elim | skip
                  exact ⟨⟨m + 1, by go_num, by omega, by first | (have h9 : decide (i < m + 1) = true := decide_eq_true (by omega); rw [h9]; done) | (have h9 : decide (i < m + 1) = false := decide_eq_false (by have := HQI.out; omega); rw [h9]; done) | (congr 1; exact decide_eq_decide.2 (by have := HQI.out; omega)), by rw [bls_succ, HBK.out]; simpa using HJ2.out, HS2.out, HBR2.out⟩, by simp [intOf]; omega⟩
                · rw [how] at HB0
                  gi_wp2_with fail
                  refine ⟨trivial, ?_⟩
                  refine (callsIn_wide.2 (clash_any q p rg ri _ HS.out.gl hgi hii)).mono ?_
                  rintro e w2 ⟨he, hb⟩
                  cases hcl : clash rg ri
                  · rw [hcl] at HB0
                    rw [hcl] at he
                    subst he
                    have hgi2 := hgi.below hb.b
                    have hii2 := hii.below hb.b
                    have HJ2' := Lib.hid (from_below HJ.out HJP.out hb.b)
                    have HSB := Lib.hid (HS.out.to hb)
                    have HBRB := Lib.hid ((hb.b.block BR (Array.getElem?_eq_some_iff.1 HBR1.out).1).trans HBR1.out)
                    have cr2 : w2.cell? ⟨BR, 0, none⟩ = some (.pointer (some ⟨p, 0, none⟩)) := (blk_cell HBRB.out 0).trans rfl
                    clear hb
                    gi_wp2_with fail
                    refine ⟨trivial, ?_⟩
                    refine (callsIn_wide.2 (clash_any p q ri rg _ HSB.out.gl hii2 hgi2)).mono ?_
                    rintro e w3 ⟨he, hb⟩
                    cases hcm : clash ri rg
                    · rw [hcm] at HB0
                      have HBK := Lib.hid (show blk T i m = false from HB0.out.trans (by simp))
                      rw [hcm] at he
                      subst he
                      have HJ2 := Lib.hid (from_below HJ.out HJ2'.out hb.b)
                      have HS2 := Lib.hid (HSB.out.to hb)
                      have HBR2 := Lib.hid ((hb.b.block BR (Array.getElem?_eq_some_iff.1 HBRB.out).1).trans HBRB.out)
                      clear hb
                      gi_wp2_with fail
                      go_roundw
                      case rel => exact ⟨m + 1, by go_num, by omega, by first | (have h9 : decide (i < m + 1) = true := decide_eq_true (by omega); rw [h9]; done) | (have h9 : decide (i < m + 1) = false := decide_eq_false (by have := HQI.out; omega); rw [h9]; done) | (congr 1; exact decide_eq_decide.2 (by have := HQI.out; omega)), by rw [bls_succ, HBK.out]; simpa using HJ2.out, HS2.out, HBR2.out⟩
                      case measure => simp [intOf]; omega
                    · rw [hcm] at HB0
                      have HBK := Lib.hid (show blk T i m = true from HB0.out.trans (by simp))
                      rw [hcm] at he
                      subst he
                      have HJ2 := Lib.hid (from_below HJ.out HJ2'.out hb.b)
                      have HS2 := Lib.hid (HSB.out.to hb)
                      have HBR2 := Lib.hid ((hb.b.block BR (Array.getElem?_eq_some_iff.1 HBRB.out).1).trans HBRB.out)
                      have HBP := Lib.hid (show bls T ps i m ++ [q] <+: bls T ps i T.length by have h1 := bls_pre T ps i (show m + 1 ≤ T.length by omega); rw [bls_succ, HBK.out] at h1; simpa [HQ.out] using h1)
                      obtain ⟨fn, tmps, assign, body, hy, hR⟩ := HY.out (bls T ps i m) q _ HJ2.out (by have := HBP.out.length_le; simp at this; omega)
                      clear hb
                      gi_wp2_with (with_reducible refine And.intro (by with_unfolding_all exact trivial) ?_)
                      refine hR.mono ?_
                      rintro e W3 (⟨rfl, hJ3, hk3⟩ | ⟨rfl, hJx3⟩)
                      · have HJ3 := Lib.hid hJ3
                        have HK3 := Lib.hid hk3
                        clear hJ3 hk3 hR hy
                        gi_wp2_with fail
                        go_roundw
                        case rel => exact ⟨m + 1, by go_num, by omega, by first | (have h9 : decide (i < m + 1) = true := decide_eq_true (by omega); rw [h9]; done) | (have h9 : decide (i < m + 1) = false := decide_eq_false (by have := HQI.out; omega); rw [h9]; done) | (congr 1; exact decide_eq_decide.2 (by have := HQI.out; omega)), by rw [bls_succ, HBK.out]; simpa [HQ.out] using HJ3.out, ⟨HS2.out.b.trans HK3.out.1, HS2.out.g⟩, HK3.out.2 _ HBR2.out⟩
                        case measure => simp [intOf]; omega
                      · have HJX3 := Lib.hid hJx3
                        clear hJx3 hR hy
                        gi_wp2_with fail
                        refine bodyPost_ret (results_none rfl _ _ _) rfl ?_
                        exact ⟨⟨_, rfl⟩, .inr ⟨bls T ps i m ++ [q], ⟨HBP.out, by simp⟩, HJX3.out⟩⟩
                  · rw [hcl] at HB0
                    have HBK := Lib.hid (show blk T i m = true from HB0.out.trans (by simp))
                    rw [hcl] at he
                    subst he
                    have HJ2 := Lib.hid (from_below HJ.out HJP.out hb.b)
                    have HS2 := Lib.hid (HS.out.to hb)
                    have HBR2 := Lib.hid ((hb.b.block BR (Array.getElem?_eq_some_iff.1 HBR1.out).1).trans HBR1.out)
                    have HBP := Lib.hid (show bls T ps i m ++ [q] <+: bls T ps i T.length by have h1 := bls_pre T ps i (show m + 1 ≤ T.length by omega); rw [bls_succ, HBK.out] at h1; simpa [HQ.out] using h1)
                    obtain ⟨fn, tmps, assign, body, hy, hR⟩ := HY.out (bls T ps i m) q _ HJ2.out (by have := HBP.out.length_le; simp at this; omega)
                    clear hb
                    gi_wp2_with (with_reducible refine And.intro (by with_unfolding_all exact trivial) ?_)
                    refine hR.mono ?_
                    rintro e W3 (⟨rfl, hJ3, hk3⟩ | ⟨rfl, hJx3⟩)
                    · have HJ3 := Lib.hid hJ3
                      have HK3 := Lib.hid hk3
                      clear hJ3 hk3 hR hy
                      gi_wp2_with fail
                      go_roundw
                      case rel => exact ⟨m + 1, by go_num, by omega, by first | (have h9 : decide (i < m + 1) = true := decide_eq_true (by omega); rw [h9]; done) | (have h9 : decide (i < m + 1) = false := decide_eq_false (by have := HQI.out; omega); rw [h9]; done) | (congr 1; exact decide_eq_decide.2 (by have := HQI.out; omega)), by rw [bls_succ, HBK.out]; simpa [HQ.out] using HJ3.out, ⟨HS2.out.b.trans HK3.out.1, HS2.out.g⟩, HK3.out.2 _ HBR2.out⟩
                      case measure => simp [intOf]; omega
                    · have HJX3 := Lib.hid hJx3
                      clear hJx3 hR hy
                      gi_wp2_with fail
                      refine bodyPost_ret (results_none rfl _ _ _) rfl ?_
                      exact ⟨⟨_, rfl⟩, .inr ⟨bls T ps i m ++ [q], ⟨HBP.out, by simp⟩, HJX3.out⟩⟩
        · have t4 : decide (m < T.length) = false := decide_eq_false hlt
          have t6 : ¬ ((m : Int) < T.length) := by omega
          obtain rfl : m = T.length := by omega
          gi_wp2_with fail
          go_end0
          exact ⟨⟨_, rfl⟩, .inl HJP.out⟩
end Lk
end Go.Proofs.YtogcjflneedcfaaDoor

namespace Go.Proofs.YtogcjflneedcfaaDoor
open Go.RowKit Md Go.Shelf
set_option linter.unusedVariables false
set_option linter.unusedSimpArgs false
namespace Lk

attribute [local go_sem] Oper.semAt_some
theorem blockers_any (D p : Nat) (w : World) : Calls Tryd.prog 49 #[ptr D, ptr p] w fun e w' => e = .returned (.func (.func 63) #[] #[ptr w.heap.size, ptr (w.heap.size + 1)]) ∧ w' = (w.alloc (.cells #[ptr D] 23)).alloc (.cells #[ptr p] 66) := by
  unfold ptr
  go_enter Tryd.func49, Tryd.ntmps49
  go_wp2
  go_ret
  exact ⟨rfl, rfl⟩
def mayB (T : List Rq) (i : Nat) : Bool := !anyB (blk T i) T.length
theorem bls_nil (T : List Rq) (ps : List Nat) (i : Nat) : bls T ps i T.length = [] ↔ mayB T i = true := by
  unfold bls mayB anyB
  rw [List.map_eq_nil_iff, List.filter_eq_nil_iff]
  cases h : (List.range T.length).any (blk T i)
  · simp only [Bool.not_false, iff_true]
    intro a ha
    rw [List.any_eq_false] at h
    exact h a ha
  · simp only [Bool.not_true, Bool.false_eq_true, iff_false]
    rw [List.any_eq_true] at h
    obtain ⟨x, h1, h2⟩ := h
    intro hn
    exact hn x h1 h2
set_option maxHeartbeats 2000000 in
set_option maxRecDepth 100000 in
theorem may_any (D : Nat) (v : Value) (ps : List Nat) (T : List Rq) (most : Int) (i p : Nat) (w : World) (gl : Gl w) (ht : TabAt w D v ps T most) (hp : ps[i]? = some p) : Calls Tryd.prog 47 #[ptr D, ptr p] w fun e w' => e = .returned (.bool (mayB T i)) ∧ St w w' := by
  refine (callsIn_wide (n := 9)).1 ?_
  have hro : Fence.wide.round = none := rfl
  have h1 : 1 ≤ 9 := by decide
  refine callsIn_of_wp_marks Tryd.func47 rfl trivial ?_ hro
  simp only [Tryd.ntmps47, List.size_toArray, List.length_cons, List.length_nil, Nat.reduceAdd, Nat.reduceSub, Array.replicate_succ, Array.replicate_zero, List.push_toArray, List.append_toArray, List.nil_append, List.cons_append]
  have hbl := fun W => callsIn_wide (n := 8) |>.2 (blockers_any D p W)
  unfold ptr at hbl ⊢
  gi_wp2_with fail
  refine ⟨trivial, ?_⟩
  refine (hbl _).mono ?_
  rintro e w' ⟨rfl, rfl⟩
  gi_wp2_with fail
  obtain ⟨wa, hwa⟩ : ∃ wa, w.alloc (.cells #[.bool false] 4) = wa := ⟨_, rfl⟩
  obtain ⟨wb, hwb⟩ : ∃ wb, wa.alloc (.cells #[.pointer (some ⟨D, 0, none⟩)] 23) = wb := ⟨_, rfl⟩
  obtain ⟨W0, hW0⟩ : ∃ W0, wb.alloc (.cells #[.pointer (some ⟨p, 0, none⟩)] 66) = W0 := ⟨_, rfl⟩
  have za : wa.heap.size = w.heap.size + 1 := by rw [← hwa]; simp
  have zb : wb.heap.size = w.heap.size + 1 + 1 := by rw [← hwb]; simp [za]
  have zc : W0.heap.size = w.heap.size + 1 + 1 + 1 := by rw [← hW0]; simp [zb]
  have ba : Below w.heap.size w wa := by rw [← hwa]; exact (Below.refl _ w).alloc (Nat.le_refl _) _
  have bb : Below wa.heap.size wa wb := by rw [← hwb]; exact (Below.refl _ wa).alloc (Nat.le_refl _) _
  have bc : Below wb.heap.size wb W0 := by rw [← hW0]; exact (Below.refl _ wb).alloc (Nat.le_refl _) _
  have k0 : wa.heap[w.heap.size]? = some (.cells #[.bool false] 4 (0, 0)) := by rw [← hwa]; exact new_at _ _
  have k1 : wb.heap[w.heap.size + 1]? = some (.cells #[ptr D] 23 (0, 0)) := by rw [← hwb, ← za]; exact new_at _ _
  have k2 : W0.heap[w.heap.size + 1 + 1]? = some (.cells #[ptr p] 66 (0, 0)) := by rw [← hW0, ← zb]; exact new_at _ _
  have k1' : W0.heap[w.heap.size + 1]? = some (.cells #[ptr D] 23 (0, 0)) := (bc.block _ (by omega)).trans k1
  have k0' : W0.heap[w.heap.size]? = some (.cells #[.bool false] 4 (0, 0)) := (bc.block _ (by omega)).trans ((bb.block _ (by omega)).trans k0)
  have hB0 : Below w.heap.size w W0 := (ba.trans (bb.mono (by omega))).trans (bc.mono (by omega))
  have hc0 : W0.cell? ⟨w.heap.size, 0, none⟩ = some (.bool false) := (blk_cell k0' 0).trans rfl
  have hf0 : W0.frozen? ⟨w.heap.size, 0, none⟩ = false := by simp [World.frozen?, k0']
  try simp only [World.size_alloc]
  rw [hwa, hwb, hW0]
  clear hwa hwb hW0 k0 k1 ba bb bc za zb k0' hbl
  have hst := blk_stops (9 - 1) (by decide) w W0 D (w.heap.size + 1) (w.heap.size + 1 + 1) v ps T most i p gl ht hp hB0 k1' k2
  unfold ptr at hst
  refine wpIn_rangeFunc_ownF hro h1 (gf := 63) (lb := #[.pointer (some ⟨w.heap.size + 1, 0, none⟩), .pointer (some ⟨w.heap.size + 1 + 1, 0, none⟩)]) rfl trivial (enters_of Tryd.func63 (by kernel_rfl) rfl)
    hst KpB.t (fun W l o o' hl ho hc hw => ⟨belowK_b (w := W0) (by omega) W l o o' hl ho hc hw, fun o2 h2 => (World.putObj_heap_other (by omega)).trans h2⟩) (Below.refl _ _) (fun _ => rfl)
    (fun pre W => (pre = [] ∧ W.cell? ⟨w.heap.size, 0, none⟩ = some (.bool false) ∧ W.frozen? ⟨w.heap.size, 0, none⟩ = false) ∧ Below w.heap.size w W)
    (fun c pre W => (c = .ret ∧ W.cell? ⟨w.heap.size, 0, none⟩ = some (.bool false)) ∧ Below w.heap.size w W)
    (OwnFrom.and (Own.from (fun s A B row hs hg hr => ⟨hs.1, cell_kept hs.2.1 hg hr, (frozen_kept hs.2.1 hg hr).trans hs.2.2⟩) _) (ownFrom_below (Nat.le_refl _) (by omega)))
    (fun c => OwnFrom.and (Own.from (fun s A B row hs hg hr => ⟨hs.1, cell_kept hs.2 hg hr⟩) _) (ownFrom_below (Nat.le_refl _) (by omega)))
    ⟨⟨rfl, hc0, hf0⟩, hB0⟩
    (fun x => { tmps := #[.pointer (some ⟨D, 0, none⟩), .pointer (some ⟨p, 0, none⟩), undef, undef, .pointer (some ⟨w.heap.size, 0, none⟩), .pointer (some ⟨D, 0, none⟩), .pointer (some ⟨p, 0, none⟩), .func (.func 63) #[] #[.pointer (some ⟨w.heap.size + 1, 0, none⟩), .pointer (some ⟨w.heap.size + 1 + 1, 0, none⟩)], .pointer (some ⟨x, 0, none⟩)], defers := [] }) ?assign ?body ?done ?stop
  case assign =>
    intro l x W K hK
    gi_wp2
    simpa using hK
  case body =>
    rintro l pre x W ⟨⟨hp0, hc, hf⟩, hB⟩ _
    gi_wp2
    exact ⟨KeepsOthers.setCell _ _ _, ⟨rfl, World.cell?_setCell_same' _ _ _ (by rw [hc]; rfl)⟩, hB.setCell (p := ⟨w.heap.size, 0, none⟩) (Nat.le_refl _) _⟩
  case done =>
    rintro D2 xs W hD hxs ⟨⟨hx0, hc, hf⟩, hB⟩ hK
    have hm : mayB T i = true := (bls_nil T ps i).1 (hxs.symm.trans hx0)
    gi_wp2
    have hK' := (KeepsOthers.setCell W ⟨w.heap.size, 0, none⟩ (.bool true)).same D2 _ hK rfl
    refine ⟨by simp, .inl ⟨_, _, rfl, run_takeDeferred hK', ?_⟩⟩
    have hc5 := cell_kept (World.cell?_setCell_same' W ⟨w.heap.size, 0, none⟩ (.bool true) (by rw [hc]; rfl)) (grownBy_putObj' _ D2 (.deferred none)) (fun r e => by cases e; exact ⟨_, hK', rfl⟩)
    refine ⟨.bool true, ?_, by rw [hm], ⟨(hB.setCell (p := ⟨w.heap.size, 0, none⟩) (Nat.le_refl _) _).trans (belowK_b (w := w) (Nat.le_refl _) _ D2 _ _ (by omega) hK' rfl rfl), gl⟩⟩
    simp [results, Tryd.f47, go_sem, hc5]
  case stop =>
    rintro D2 c pre W hD hpre ⟨⟨rfl, hc⟩, hB⟩ hK
    have hm : mayB T i = false := by
      cases hq : mayB T i
      · rfl
      · have h9 := (bls_nil T ps i).2 hq
        rw [h9] at hpre
        exact absurd (List.prefix_nil.1 hpre.1) hpre.2
    gi_wp2
    refine ⟨by simp, .inl ⟨_, _, rfl, run_takeDeferred hK, ?_⟩⟩
    have hc5 := cell_kept hc (grownBy_putObj' _ D2 (.deferred none)) (fun r e => by cases e; exact ⟨_, hK, rfl⟩)
    refine ⟨.bool false, ?_, by rw [hm], ⟨hB.trans (belowK_b (w := w) (Nat.le_refl _) W D2 _ _ (by omega) hK rfl rfl), gl⟩⟩
    simp [results, Tryd.f47, go_sem, hc5]
end Lk
end Go.Proofs.YtogcjflneedcfaaDoor
