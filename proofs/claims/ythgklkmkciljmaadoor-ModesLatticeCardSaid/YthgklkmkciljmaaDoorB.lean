/- The modes of locks: contracts of the functions over objects. -/
import Derived.Test.YthgklkmkciljmaaDoorA
namespace Go.Proofs.YthgklkmkciljmaaDoor
open Go.RowKit
set_option linter.unusedVariables false
set_option linter.unusedSimpArgs false
namespace Md
/-- '<' on strings is the lexical order of their bytes -/
theorem bytesLess_eq : ∀ (x y : List UInt8), Op.bytesLess x y = decide (x < y)
  | [], [] => by simp [Op.bytesLess]
  | _ :: _, [] => by simp [Op.bytesLess]
  | [], _ :: _ => by simp [Op.bytesLess]
  | a :: x, b :: y => by
    rw [Op.bytesLess, bytesLess_eq x y]
    simp only [List.cons_lt_cons_iff]
    by_cases h1 : a < b <;> by_cases h2 : a = b <;> by_cases h3 : x < y <;> simp [h1, h2, h3]
theorem ret_bool {a b : Bool} (h : a = b) : Ending.returned (.bool a) = .returned (.bool b) := by rw [h]
def pl (s : Int) (t l u : ByteArray) (e : Bool) : Bool := if s < 0 then false else if 7 < s then false else if s = 0 then t.toList.isEmpty && l.toList.isEmpty && u.toList.isEmpty && !e else if s = 1 then !t.toList.isEmpty && l.toList.isEmpty && u.toList.isEmpty && !e else !t.toList.isEmpty && (if e then u.toList.isEmpty else (Op.bytesLess l.toList u.toList || l.toList == u.toList))
theorem pl_neg (s : Int) (t l u : ByteArray) (e : Bool) (h0 : s < 0) : pl s t l u e = false := by simp [pl, h0]
theorem pl_big (s : Int) (t l u : ByteArray) (e : Bool) (h0 : 7 < s) : pl s t l u e = false := by simp [pl, h0]
theorem pl_0 (t l u : ByteArray) (e : Bool) : pl 0 t l u e = (t.toList.isEmpty && l.toList.isEmpty && u.toList.isEmpty && !e) := by simp [pl]
theorem pl_1 (t l u : ByteArray) (e : Bool) : pl 1 t l u e = (!t.toList.isEmpty && l.toList.isEmpty && u.toList.isEmpty && !e) := by simp [pl]
theorem pl_mid (s : Int) (t l u : ByteArray) (e : Bool) (h0 : 2 ≤ s) (h1 : s ≤ 7) : pl s t l u e = (!t.toList.isEmpty && (if e then u.toList.isEmpty else (Op.bytesLess l.toList u.toList || l.toList == u.toList))) := by
  unfold pl; rw [if_neg (by omega), if_neg (by omega), if_neg (by omega), if_neg (by omega)]
/-- of one space and table, both right -/
def al (s1 : Int) (t1 l1 u1 : ByteArray) (e1 : Bool) (s2 : Int) (t2 l2 u2 : ByteArray) (e2 : Bool) : Bool := pl s1 t1 l1 u1 e1 && pl s2 t2 l2 u2 e2 && s1 == s2 && t1.toList == t2.toList
def up (k : ByteArray) (s : Int) (t l u : ByteArray) (e : Bool) : Bool := decide (s < 2) || e || (Op.bytesLess k.toList u.toList || k.toList == u.toList)
def meetB (s1 : Int) (t1 l1 u1 : ByteArray) (e1 : Bool) (s2 : Int) (t2 l2 u2 : ByteArray) (e2 : Bool) : Bool := al s1 t1 l1 u1 e1 s2 t2 l2 u2 e2 && up l1 s2 t2 l2 u2 e2 && up l2 s1 t1 l1 u1 e1
def withB (s1 : Int) (t1 l1 u1 : ByteArray) (e1 : Bool) (s2 : Int) (t2 l2 u2 : ByteArray) (e2 : Bool) : Bool := al s1 t1 l1 u1 e1 s2 t2 l2 u2 e2 && !(Op.bytesLess l1.toList l2.toList) && (e2 || !e1 && up u1 s2 t2 l2 u2 e2)

theorem place_neg {w0 : World} (s : Int) (t l u : ByteArray) (e : Bool) (w : World) (g : St w0 w) (h0 : s < 0) : Calls Tryd.prog 19 #[.agg #[.int .i64 s, .string t, .string l, .string u, .bool e]] w fun e' w' => e' = .returned (.bool (pl s t l u e)) ∧ St w0 w' := by
  rw [pl_neg _ _ _ _ _ h0]
  cases e
  all_goals (try simp only [Bool.false_eq_true, if_false, if_true])
  all_goals go_enter Tryd.func19, Tryd.ntmps19
  all_goals go_wp2
  all_goals go_ret
  all_goals refine ⟨ret_bool ?_, g.alloc _⟩
  all_goals first | (exfalso; omega) | (simp [*]; done) | (cases q1 : t.toList.isEmpty <;> cases q3 : l.toList.isEmpty <;> cases q4 : u.toList.isEmpty <;> simp_all <;> omega)
theorem place_big {w0 : World} (s : Int) (t l u : ByteArray) (e : Bool) (w : World) (g : St w0 w) (h0 : 7 < s) : Calls Tryd.prog 19 #[.agg #[.int .i64 s, .string t, .string l, .string u, .bool e]] w fun e' w' => e' = .returned (.bool (pl s t l u e)) ∧ St w0 w' := by
  rw [pl_big _ _ _ _ _ h0]
  cases e
  all_goals (try simp only [Bool.false_eq_true, if_false, if_true])
  all_goals go_enter Tryd.func19, Tryd.ntmps19
  all_goals go_wp2
  all_goals go_ret
  all_goals refine ⟨ret_bool ?_, g.alloc _⟩
  all_goals first | (exfalso; omega) | (simp [*]; done) | (cases q1 : t.toList.isEmpty <;> cases q3 : l.toList.isEmpty <;> cases q4 : u.toList.isEmpty <;> simp_all <;> omega)
theorem place_0 {w0 : World} (s : Int) (t l u : ByteArray) (e : Bool) (w : World) (g : St w0 w) (h0 : s = 0) : Calls Tryd.prog 19 #[.agg #[.int .i64 s, .string t, .string l, .string u, .bool e]] w fun e' w' => e' = .returned (.bool (pl s t l u e)) ∧ St w0 w' := by
  subst h0
  rw [pl_0]
  cases e
  all_goals (try simp only [Bool.false_eq_true, if_false, if_true])
  all_goals go_enter Tryd.func19, Tryd.ntmps19
  all_goals go_wp2
  all_goals go_ret
  all_goals refine ⟨ret_bool ?_, g.alloc _⟩
  all_goals first | (exfalso; omega) | (simp [*]; done) | (cases q1 : t.toList.isEmpty <;> cases q3 : l.toList.isEmpty <;> cases q4 : u.toList.isEmpty <;> simp_all <;> omega)
theorem place_1 {w0 : World} (s : Int) (t l u : ByteArray) (e : Bool) (w : World) (g : St w0 w) (h0 : s = 1) : Calls Tryd.prog 19 #[.agg #[.int .i64 s, .string t, .string l, .string u, .bool e]] w fun e' w' => e' = .returned (.bool (pl s t l u e)) ∧ St w0 w' := by
  subst h0
  rw [pl_1]
  cases e
  all_goals (try simp only [Bool.false_eq_true, if_false, if_true])
  all_goals go_enter Tryd.func19, Tryd.ntmps19
  all_goals go_wp2
  all_goals go_ret
  all_goals refine ⟨ret_bool ?_, g.alloc _⟩
  all_goals first | (exfalso; omega) | (simp [*]; done) | (cases q1 : t.toList.isEmpty <;> cases q3 : l.toList.isEmpty <;> cases q4 : u.toList.isEmpty <;> simp_all <;> omega)
set_option maxHeartbeats 2000000 in
theorem place_mid {w0 : World} (s : Int) (t l u : ByteArray) (e : Bool) (w : World) (g : St w0 w) (h0 : 2 ≤ s) (h1 : s ≤ 7) : Calls Tryd.prog 19 #[.agg #[.int .i64 s, .string t, .string l, .string u, .bool e]] w fun e' w' => e' = .returned (.bool (pl s t l u e)) ∧ St w0 w' := by
  rw [pl_mid _ _ _ _ _ h0 h1]
  have z0 : (s == 0) = false := by simp; omega
  cases e
  all_goals (try simp only [Bool.false_eq_true, if_false, if_true])
  all_goals go_enter Tryd.func19, Tryd.ntmps19
  all_goals go_wp2
  all_goals go_ret
  all_goals refine ⟨ret_bool ?_, g.alloc _⟩
  all_goals first | (exfalso; omega) | (simp [*]; done) | (cases q1 : t.toList.isEmpty <;> cases q3 : l.toList.isEmpty <;> cases q4 : u.toList.isEmpty <;> simp_all <;> omega)
theorem place_any {w0 : World} (s : Int) (t l u : ByteArray) (e : Bool) (w : World) (g : St w0 w) : Calls Tryd.prog 19 #[.agg #[.int .i64 s, .string t, .string l, .string u, .bool e]] w fun e' w' => e' = .returned (.bool (pl s t l u e)) ∧ St w0 w' := by
  have five : s < 0 ∨ s = 0 ∨ s = 1 ∨ (2 ≤ s ∧ s ≤ 7) ∨ 7 < s := by omega
  rcases five with h0 | h0 | h0 | ⟨h0, h1⟩ | h0
  · exact place_neg _ _ _ _ _ w g h0
  · exact place_0 _ _ _ _ _ w g h0
  · exact place_1 _ _ _ _ _ w g h0
  · exact place_mid _ _ _ _ _ w g h0 h1
  · exact place_big _ _ _ _ _ w g h0
theorem rplace_neg {w0 : World} (s : Int) (t l u : ByteArray) (e : Bool) (w : World) (g : St w0 w) (h0 : s < 0) : Calls Tryd.prog 20 #[.agg #[.int .i64 s, .string t, .string l, .string u, .bool e]] w fun e' w' => e' = .returned (.bool (pl s t l u e)) ∧ St w0 w' := by
  rw [pl_neg _ _ _ _ _ h0]
  cases e
  all_goals (try simp only [Bool.false_eq_true, if_false, if_true])
  all_goals go_enter Tryd.func20, Tryd.ntmps20
  all_goals go_wp2
  all_goals go_ret
  all_goals refine ⟨ret_bool ?_, g.alloc _⟩
  all_goals first | (exfalso; omega) | (simp [*]; done) | (cases q1 : t.toList.isEmpty <;> cases q3 : l.toList.isEmpty <;> cases q4 : u.toList.isEmpty <;> simp_all <;> omega)
theorem rplace_big {w0 : World} (s : Int) (t l u : ByteArray) (e : Bool) (w : World) (g : St w0 w) (h0 : 7 < s) : Calls Tryd.prog 20 #[.agg #[.int .i64 s, .string t, .string l, .string u, .bool e]] w fun e' w' => e' = .returned (.bool (pl s t l u e)) ∧ St w0 w' := by
  rw [pl_big _ _ _ _ _ h0]
  cases e
  all_goals (try simp only [Bool.false_eq_true, if_false, if_true])
  all_goals go_enter Tryd.func20, Tryd.ntmps20
  all_goals go_wp2
  all_goals go_ret
  all_goals refine ⟨ret_bool ?_, g.alloc _⟩
  all_goals first | (exfalso; omega) | (simp [*]; done) | (cases q1 : t.toList.isEmpty <;> cases q3 : l.toList.isEmpty <;> cases q4 : u.toList.isEmpty <;> simp_all <;> omega)
theorem rplace_0 {w0 : World} (s : Int) (t l u : ByteArray) (e : Bool) (w : World) (g : St w0 w) (h0 : s = 0) : Calls Tryd.prog 20 #[.agg #[.int .i64 s, .string t, .string l, .string u, .bool e]] w fun e' w' => e' = .returned (.bool (pl s t l u e)) ∧ St w0 w' := by
  subst h0
  rw [pl_0]
  cases e
  all_goals (try simp only [Bool.false_eq_true, if_false, if_true])
  all_goals go_enter Tryd.func20, Tryd.ntmps20
  all_goals go_wp2
  all_goals go_ret
  all_goals refine ⟨ret_bool ?_, g.alloc _⟩
  all_goals first | (exfalso; omega) | (simp [*]; done) | (cases q1 : t.toList.isEmpty <;> cases q3 : l.toList.isEmpty <;> cases q4 : u.toList.isEmpty <;> simp_all <;> omega)
theorem rplace_1 {w0 : World} (s : Int) (t l u : ByteArray) (e : Bool) (w : World) (g : St w0 w) (h0 : s = 1) : Calls Tryd.prog 20 #[.agg #[.int .i64 s, .string t, .string l, .string u, .bool e]] w fun e' w' => e' = .returned (.bool (pl s t l u e)) ∧ St w0 w' := by
  subst h0
  rw [pl_1]
  cases e
  all_goals (try simp only [Bool.false_eq_true, if_false, if_true])
  all_goals go_enter Tryd.func20, Tryd.ntmps20
  all_goals go_wp2
  all_goals go_ret
  all_goals refine ⟨ret_bool ?_, g.alloc _⟩
  all_goals first | (exfalso; omega) | (simp [*]; done) | (cases q1 : t.toList.isEmpty <;> cases q3 : l.toList.isEmpty <;> cases q4 : u.toList.isEmpty <;> simp_all <;> omega)
set_option maxHeartbeats 2000000 in
theorem rplace_mid {w0 : World} (s : Int) (t l u : ByteArray) (e : Bool) (w : World) (g : St w0 w) (h0 : 2 ≤ s) (h1 : s ≤ 7) : Calls Tryd.prog 20 #[.agg #[.int .i64 s, .string t, .string l, .string u, .bool e]] w fun e' w' => e' = .returned (.bool (pl s t l u e)) ∧ St w0 w' := by
  rw [pl_mid _ _ _ _ _ h0 h1]
  have z0 : (s == 0) = false := by simp; omega
  cases e
  all_goals (try simp only [Bool.false_eq_true, if_false, if_true])
  all_goals go_enter Tryd.func20, Tryd.ntmps20
  all_goals go_wp2
  all_goals go_ret
  all_goals refine ⟨ret_bool ?_, g.alloc _⟩
  all_goals first | (exfalso; omega) | (simp [*]; done) | (cases q1 : t.toList.isEmpty <;> cases q3 : l.toList.isEmpty <;> cases q4 : u.toList.isEmpty <;> simp_all <;> omega)
theorem rplace_any {w0 : World} (s : Int) (t l u : ByteArray) (e : Bool) (w : World) (g : St w0 w) : Calls Tryd.prog 20 #[.agg #[.int .i64 s, .string t, .string l, .string u, .bool e]] w fun e' w' => e' = .returned (.bool (pl s t l u e)) ∧ St w0 w' := by
  have five : s < 0 ∨ s = 0 ∨ s = 1 ∨ (2 ≤ s ∧ s ≤ 7) ∨ 7 < s := by omega
  rcases five with h0 | h0 | h0 | ⟨h0, h1⟩ | h0
  · exact rplace_neg _ _ _ _ _ w g h0
  · exact rplace_0 _ _ _ _ _ w g h0
  · exact rplace_1 _ _ _ _ _ w g h0
  · exact rplace_mid _ _ _ _ _ w g h0 h1
  · exact rplace_big _ _ _ _ _ w g h0
end Md
end Go.Proofs.YthgklkmkciljmaaDoor
