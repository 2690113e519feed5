/- The modes of locks: contracts of the functions over two objects. -/
import Derived.Test.YthgklkmkciljmaaDoorB
import Derived.Lib.Hide
namespace Go.Proofs.YthgklkmkciljmaaDoor
open Go.RowKit
set_option linter.unusedVariables false
set_option linter.unusedSimpArgs false
namespace Md
theorem blk_cell {w : World} {g : Nat} {c : Array Value} {t : TypeId} {f : Nat × Nat} (h : w.heap[g]? = some (.cells c t f)) (i : Nat) : w.cell? ⟨g, i, none⟩ = c[i]? := by simp [World.cell?, h]
theorem St.to {w0 w w' : World} (h : St w0 w) (h' : St w w') : St w0 w' := ⟨h.b.trans (h'.b.mono h.b.size), h.g⟩
theorem St.self {w0 w : World} (h : St w0 w) : St w w := St.refl h.gl
/-- two boxes of the call's own, laid behind w -/
structure Bx (w v : World) (a b : Array Value) : Prop where
  a : v.heap[w.heap.size]? = some (.cells a 31)
  b : v.heap[w.heap.size + 1]? = some (.cells b 31)
  z : w.heap.size + 1 < v.heap.size
theorem Bx.start (w : World) (a b : Array Value) : Bx w ((w.alloc (.cells a 31)).alloc (.cells b 31)) a b where
  a := by rw [Below.heap_alloc _ _ _ (by simp)]; show (w.heap.push _)[_]? = _; simp
  b := by show ((w.heap.push _).push _)[_]? = _; rw [Array.getElem?_push, if_pos (by simp)]
  z := by simp
theorem Bx.step {w v v' : World} {a b : Array Value} (h : Bx w v a b) (k : St v v') : Bx w v' a b where
  a := (k.b.block _ (by have := h.z; omega)).trans h.a
  b := (k.b.block _ h.z).trans h.b
  z := Nat.lt_of_lt_of_le h.z k.b.size
theorem alike_any {w0 : World} (s1 : Int) (t1 l1 u1 : ByteArray) (e1 : Bool) (s2 : Int) (t2 l2 u2 : ByteArray) (e2 : Bool) (w : World) (g : St w0 w) : Calls Tryd.prog 25 #[.agg #[.int .i64 s1, .string t1, .string l1, .string u1, .bool e1], .agg #[.int .i64 s2, .string t2, .string l2, .string u2, .bool e2]] w fun e' w' => e' = .returned (.bool (al s1 t1 l1 u1 e1 s2 t2 l2 u2 e2)) ∧ St w0 w' := by
  have G := Lib.hid ((g.alloc (.cells #[.int .i64 s1, .string t1, .string l1, .string u1, .bool e1] 31)).alloc (.cells #[.int .i64 s2, .string t2, .string l2, .string u2, .bool e2] 31))
  have X := Lib.hid (Bx.start w #[.int .i64 s1, .string t1, .string l1, .string u1, .bool e1] #[.int .i64 s2, .string t2, .string l2, .string u2, .bool e2])
  clear g
  go_enter Tryd.func25, Tryd.ntmps25
  go_wp2_with fail
  refine (place_any _ _ _ _ _ _ G.out.self).mono ?_
  rintro e w1 ⟨he, hb⟩
  have X1 := Lib.hid (X.out.step hb)
  have G1 := Lib.hid (G.out.to hb)
  clear hb
  have c10 : w1.cell? ⟨w.heap.size, 0, none⟩ = some (.int .i64 s1) := (blk_cell X1.out.a 0).trans rfl
  have c11 : w1.cell? ⟨w.heap.size, 1, none⟩ = some (.string t1) := (blk_cell X1.out.a 1).trans rfl
  have c12 : w1.cell? ⟨w.heap.size, 2, none⟩ = some (.string l1) := (blk_cell X1.out.a 2).trans rfl
  have c13 : w1.cell? ⟨w.heap.size, 3, none⟩ = some (.string u1) := (blk_cell X1.out.a 3).trans rfl
  have c14 : w1.cell? ⟨w.heap.size, 4, none⟩ = some (.bool e1) := (blk_cell X1.out.a 4).trans rfl
  have c20 : w1.cell? ⟨w.heap.size + 1, 0, none⟩ = some (.int .i64 s2) := (blk_cell X1.out.b 0).trans rfl
  have c21 : w1.cell? ⟨w.heap.size + 1, 1, none⟩ = some (.string t2) := (blk_cell X1.out.b 1).trans rfl
  have c22 : w1.cell? ⟨w.heap.size + 1, 2, none⟩ = some (.string l2) := (blk_cell X1.out.b 2).trans rfl
  have c23 : w1.cell? ⟨w.heap.size + 1, 3, none⟩ = some (.string u2) := (blk_cell X1.out.b 3).trans rfl
  have c24 : w1.cell? ⟨w.heap.size + 1, 4, none⟩ = some (.bool e2) := (blk_cell X1.out.b 4).trans rfl
  cases p : pl s1 t1 l1 u1 e1 <;> rw [p] at he <;> subst he <;> (have P1 := Lib.hid p; clear p)
  · go_wp2_with fail
    all_goals go_ret
    all_goals exact ⟨ret_bool (by first | (simp [al, P1.out]; done) | (simp [al, P1.out, *]; done) | (have P1x := P1.out; simp_all [al]; done) | skip), G1.out⟩
  · go_wp2_with fail
    clear c10 c11 c12 c13 c14 c20 c21 c22 c23 c24
    refine (place_any _ _ _ _ _ _ G1.out.self).mono ?_
    rintro e w2 ⟨he, hb⟩
    have X2 := Lib.hid (X1.out.step hb)
    have G2 := Lib.hid (G1.out.to hb)
    clear hb
    have c10 : w2.cell? ⟨w.heap.size, 0, none⟩ = some (.int .i64 s1) := (blk_cell X2.out.a 0).trans rfl
    have c11 : w2.cell? ⟨w.heap.size, 1, none⟩ = some (.string t1) := (blk_cell X2.out.a 1).trans rfl
    have c12 : w2.cell? ⟨w.heap.size, 2, none⟩ = some (.string l1) := (blk_cell X2.out.a 2).trans rfl
    have c13 : w2.cell? ⟨w.heap.size, 3, none⟩ = some (.string u1) := (blk_cell X2.out.a 3).trans rfl
    have c14 : w2.cell? ⟨w.heap.size, 4, none⟩ = some (.bool e1) := (blk_cell X2.out.a 4).trans rfl
    have c20 : w2.cell? ⟨w.heap.size + 1, 0, none⟩ = some (.int .i64 s2) := (blk_cell X2.out.b 0).trans rfl
    have c21 : w2.cell? ⟨w.heap.size + 1, 1, none⟩ = some (.string t2) := (blk_cell X2.out.b 1).trans rfl
    have c22 : w2.cell? ⟨w.heap.size + 1, 2, none⟩ = some (.string l2) := (blk_cell X2.out.b 2).trans rfl
    have c23 : w2.cell? ⟨w.heap.size + 1, 3, none⟩ = some (.string u2) := (blk_cell X2.out.b 3).trans rfl
    have c24 : w2.cell? ⟨w.heap.size + 1, 4, none⟩ = some (.bool e2) := (blk_cell X2.out.b 4).trans rfl
    cases p : pl s2 t2 l2 u2 e2 <;> rw [p] at he <;> subst he <;> (have P2 := Lib.hid p; clear p)
    · go_wp2_with fail
      all_goals go_ret
      all_goals exact ⟨ret_bool (by first | (simp [al, P1.out, P2.out]; done) | (simp [al, P1.out, P2.out, *]; done) | (have P1x := P1.out; have P2x := P2.out; simp_all [al]; done) | skip), G2.out⟩
    · go_wp2_with fail
      all_goals go_ret
      all_goals exact ⟨ret_bool (by first | (simp [al, P1.out, P2.out]; done) | (simp [al, P1.out, P2.out, *]; done) | (have P1x := P1.out; have P2x := P2.out; simp_all [al]; done) | skip), G2.out⟩
theorem both_any {w0 : World} (s1 : Int) (t1 l1 u1 : ByteArray) (e1 : Bool) (s2 : Int) (t2 l2 u2 : ByteArray) (e2 : Bool) (w : World) (g : St w0 w) : Calls Tryd.prog 27 #[.agg #[.int .i64 s1, .string t1, .string l1, .string u1, .bool e1], .agg #[.int .i64 s2, .string t2, .string l2, .string u2, .bool e2]] w fun e' w' => e' = .returned (.bool (al s1 t1 l1 u1 e1 s2 t2 l2 u2 e2)) ∧ St w0 w' := by
  have G := Lib.hid ((g.alloc (.cells #[.int .i64 s1, .string t1, .string l1, .string u1, .bool e1] 31)).alloc (.cells #[.int .i64 s2, .string t2, .string l2, .string u2, .bool e2] 31))
  have X := Lib.hid (Bx.start w #[.int .i64 s1, .string t1, .string l1, .string u1, .bool e1] #[.int .i64 s2, .string t2, .string l2, .string u2, .bool e2])
  clear g
  go_enter Tryd.func27, Tryd.ntmps27
  go_wp2_with fail
  refine (rplace_any _ _ _ _ _ _ G.out.self).mono ?_
  rintro e w1 ⟨he, hb⟩
  have X1 := Lib.hid (X.out.step hb)
  have G1 := Lib.hid (G.out.to hb)
  clear hb
  have c10 : w1.cell? ⟨w.heap.size, 0, none⟩ = some (.int .i64 s1) := (blk_cell X1.out.a 0).trans rfl
  have c11 : w1.cell? ⟨w.heap.size, 1, none⟩ = some (.string t1) := (blk_cell X1.out.a 1).trans rfl
  have c12 : w1.cell? ⟨w.heap.size, 2, none⟩ = some (.string l1) := (blk_cell X1.out.a 2).trans rfl
  have c13 : w1.cell? ⟨w.heap.size, 3, none⟩ = some (.string u1) := (blk_cell X1.out.a 3).trans rfl
  have c14 : w1.cell? ⟨w.heap.size, 4, none⟩ = some (.bool e1) := (blk_cell X1.out.a 4).trans rfl
  have c20 : w1.cell? ⟨w.heap.size + 1, 0, none⟩ = some (.int .i64 s2) := (blk_cell X1.out.b 0).trans rfl
  have c21 : w1.cell? ⟨w.heap.size + 1, 1, none⟩ = some (.string t2) := (blk_cell X1.out.b 1).trans rfl
  have c22 : w1.cell? ⟨w.heap.size + 1, 2, none⟩ = some (.string l2) := (blk_cell X1.out.b 2).trans rfl
  have c23 : w1.cell? ⟨w.heap.size + 1, 3, none⟩ = some (.string u2) := (blk_cell X1.out.b 3).trans rfl
  have c24 : w1.cell? ⟨w.heap.size + 1, 4, none⟩ = some (.bool e2) := (blk_cell X1.out.b 4).trans rfl
  cases p : pl s1 t1 l1 u1 e1 <;> rw [p] at he <;> subst he <;> (have P1 := Lib.hid p; clear p)
  · go_wp2_with fail
    clear c10 c11 c12 c13 c14 c20 c21 c22 c23 c24
    refine (rplace_any _ _ _ _ _ _ G1.out.self).mono ?_
    rintro e w2 ⟨he, hb⟩
    have X2 := Lib.hid (X1.out.step hb)
    have G2 := Lib.hid (G1.out.to hb)
    clear hb
    have c10 : w2.cell? ⟨w.heap.size, 0, none⟩ = some (.int .i64 s1) := (blk_cell X2.out.a 0).trans rfl
    have c11 : w2.cell? ⟨w.heap.size, 1, none⟩ = some (.string t1) := (blk_cell X2.out.a 1).trans rfl
    have c12 : w2.cell? ⟨w.heap.size, 2, none⟩ = some (.string l1) := (blk_cell X2.out.a 2).trans rfl
    have c13 : w2.cell? ⟨w.heap.size, 3, none⟩ = some (.string u1) := (blk_cell X2.out.a 3).trans rfl
    have c14 : w2.cell? ⟨w.heap.size, 4, none⟩ = some (.bool e1) := (blk_cell X2.out.a 4).trans rfl
    have c20 : w2.cell? ⟨w.heap.size + 1, 0, none⟩ = some (.int .i64 s2) := (blk_cell X2.out.b 0).trans rfl
    have c21 : w2.cell? ⟨w.heap.size + 1, 1, none⟩ = some (.string t2) := (blk_cell X2.out.b 1).trans rfl
    have c22 : w2.cell? ⟨w.heap.size + 1, 2, none⟩ = some (.string l2) := (blk_cell X2.out.b 2).trans rfl
    have c23 : w2.cell? ⟨w.heap.size + 1, 3, none⟩ = some (.string u2) := (blk_cell X2.out.b 3).trans rfl
    have c24 : w2.cell? ⟨w.heap.size + 1, 4, none⟩ = some (.bool e2) := (blk_cell X2.out.b 4).trans rfl
    cases p : pl s2 t2 l2 u2 e2 <;> rw [p] at he <;> subst he <;> (have P2 := Lib.hid p; clear p)
    · go_wp2_with fail
      all_goals go_ret
      all_goals exact ⟨ret_bool (by first | (simp [al, P1.out, P2.out]; done) | (simp [al, P1.out, P2.out, *]; done) | (have P1x := P1.out; have P2x := P2.out; simp_all [al]; done) | skip), G2.out⟩
    · go_wp2_with fail
      all_goals go_ret
      all_goals exact ⟨ret_bool (by first | (simp [al, P1.out, P2.out]; done) | (simp [al, P1.out, P2.out, *]; done) | (have P1x := P1.out; have P2x := P2.out; simp_all [al]; done) | skip), G2.out⟩
  · go_wp2_with fail
    clear c10 c11 c12 c13 c14 c20 c21 c22 c23 c24
    refine (rplace_any _ _ _ _ _ _ G1.out.self).mono ?_
    rintro e w2 ⟨he, hb⟩
    have X2 := Lib.hid (X1.out.step hb)
    have G2 := Lib.hid (G1.out.to hb)
    clear hb
    have c10 : w2.cell? ⟨w.heap.size, 0, none⟩ = some (.int .i64 s1) := (blk_cell X2.out.a 0).trans rfl
    have c11 : w2.cell? ⟨w.heap.size, 1, none⟩ = some (.string t1) := (blk_cell X2.out.a 1).trans rfl
    have c12 : w2.cell? ⟨w.heap.size, 2, none⟩ = some (.string l1) := (blk_cell X2.out.a 2).trans rfl
    have c13 : w2.cell? ⟨w.heap.size, 3, none⟩ = some (.string u1) := (blk_cell X2.out.a 3).trans rfl
    have c14 : w2.cell? ⟨w.heap.size, 4, none⟩ = some (.bool e1) := (blk_cell X2.out.a 4).trans rfl
    have c20 : w2.cell? ⟨w.heap.size + 1, 0, none⟩ = some (.int .i64 s2) := (blk_cell X2.out.b 0).trans rfl
    have c21 : w2.cell? ⟨w.heap.size + 1, 1, none⟩ = some (.string t2) := (blk_cell X2.out.b 1).trans rfl
    have c22 : w2.cell? ⟨w.heap.size + 1, 2, none⟩ = some (.string l2) := (blk_cell X2.out.b 2).trans rfl
    have c23 : w2.cell? ⟨w.heap.size + 1, 3, none⟩ = some (.string u2) := (blk_cell X2.out.b 3).trans rfl
    have c24 : w2.cell? ⟨w.heap.size + 1, 4, none⟩ = some (.bool e2) := (blk_cell X2.out.b 4).trans rfl
    cases p : pl s2 t2 l2 u2 e2 <;> rw [p] at he <;> subst he <;> (have P2 := Lib.hid p; clear p)
    · go_wp2_with fail
      all_goals go_ret
      all_goals exact ⟨ret_bool (by first | (simp [al, P1.out, P2.out]; done) | (simp [al, P1.out, P2.out, *]; done) | (have P1x := P1.out; have P2x := P2.out; simp_all [al]; done) | skip), G2.out⟩
    · go_wp2_with fail
      all_goals go_ret
      all_goals exact ⟨ret_bool (by first | (simp [al, P1.out, P2.out]; done) | (simp [al, P1.out, P2.out, *]; done) | (have P1x := P1.out; have P2x := P2.out; simp_all [al]; done) | skip), G2.out⟩
theorem upto_any {w0 : World} (k : ByteArray) (s : Int) (t l u : ByteArray) (e : Bool) (w : World) (g : St w0 w) : Calls Tryd.prog 26 #[.string k, .agg #[.int .i64 s, .string t, .string l, .string u, .bool e]] w fun e' w' => e' = .returned (.bool (up k s t l u e)) ∧ St w0 w' := by
  cases e
  all_goals go_enter Tryd.func26, Tryd.ntmps26
  all_goals go_wp2
  all_goals go_ret
  all_goals refine ⟨ret_bool ?_, g.alloc _⟩
  all_goals first | (simp [up]; done) | (simp [up, *]; done) | (simp [up]; omega)
set_option maxHeartbeats 1000000 in
theorem meet_any {w0 : World} (s1 : Int) (t1 l1 u1 : ByteArray) (e1 : Bool) (s2 : Int) (t2 l2 u2 : ByteArray) (e2 : Bool) (w : World) (g : St w0 w) : Calls Tryd.prog 21 #[.agg #[.int .i64 s1, .string t1, .string l1, .string u1, .bool e1], .agg #[.int .i64 s2, .string t2, .string l2, .string u2, .bool e2]] w fun e' w' => e' = .returned (.bool (meetB s1 t1 l1 u1 e1 s2 t2 l2 u2 e2)) ∧ St w0 w' := by
  have G := Lib.hid ((g.alloc (.cells #[.int .i64 s1, .string t1, .string l1, .string u1, .bool e1] 31)).alloc (.cells #[.int .i64 s2, .string t2, .string l2, .string u2, .bool e2] 31))
  have X := Lib.hid (Bx.start w #[.int .i64 s1, .string t1, .string l1, .string u1, .bool e1] #[.int .i64 s2, .string t2, .string l2, .string u2, .bool e2])
  clear g
  go_enter Tryd.func21, Tryd.ntmps21
  go_wp2_with fail
  refine (alike_any _ _ _ _ _ _ _ _ _ _ _ G.out.self).mono ?_
  rintro e w1 ⟨he, hb⟩
  have X1 := Lib.hid (X.out.step hb)
  have G1 := Lib.hid (G.out.to hb)
  clear hb
  have c10 : w1.cell? ⟨w.heap.size, 0, none⟩ = some (.int .i64 s1) := (blk_cell X1.out.a 0).trans rfl
  have c11 : w1.cell? ⟨w.heap.size, 1, none⟩ = some (.string t1) := (blk_cell X1.out.a 1).trans rfl
  have c12 : w1.cell? ⟨w.heap.size, 2, none⟩ = some (.string l1) := (blk_cell X1.out.a 2).trans rfl
  have c13 : w1.cell? ⟨w.heap.size, 3, none⟩ = some (.string u1) := (blk_cell X1.out.a 3).trans rfl
  have c14 : w1.cell? ⟨w.heap.size, 4, none⟩ = some (.bool e1) := (blk_cell X1.out.a 4).trans rfl
  have c20 : w1.cell? ⟨w.heap.size + 1, 0, none⟩ = some (.int .i64 s2) := (blk_cell X1.out.b 0).trans rfl
  have c21 : w1.cell? ⟨w.heap.size + 1, 1, none⟩ = some (.string t2) := (blk_cell X1.out.b 1).trans rfl
  have c22 : w1.cell? ⟨w.heap.size + 1, 2, none⟩ = some (.string l2) := (blk_cell X1.out.b 2).trans rfl
  have c23 : w1.cell? ⟨w.heap.size + 1, 3, none⟩ = some (.string u2) := (blk_cell X1.out.b 3).trans rfl
  have c24 : w1.cell? ⟨w.heap.size + 1, 4, none⟩ = some (.bool e2) := (blk_cell X1.out.b 4).trans rfl
  cases p : al s1 t1 l1 u1 e1 s2 t2 l2 u2 e2 <;> rw [p] at he <;> subst he <;> (have P1 := Lib.hid p; clear p)
  · go_wp2_with fail
    all_goals go_ret
    all_goals exact ⟨ret_bool (by first | (simp [meetB, P1.out]; done) | (simp [meetB, P1.out, *]; done) | (have P1x := P1.out; simp_all [meetB]; done) | skip), G1.out⟩
  · go_wp2_with fail
    clear c10 c11 c12 c13 c14 c20 c21 c22 c23 c24
    refine (upto_any _ _ _ _ _ _ _ G1.out.self).mono ?_
    rintro e w2 ⟨he, hb⟩
    have X2 := Lib.hid (X1.out.step hb)
    have G2 := Lib.hid (G1.out.to hb)
    clear hb
    have c10 : w2.cell? ⟨w.heap.size, 0, none⟩ = some (.int .i64 s1) := (blk_cell X2.out.a 0).trans rfl
    have c11 : w2.cell? ⟨w.heap.size, 1, none⟩ = some (.string t1) := (blk_cell X2.out.a 1).trans rfl
    have c12 : w2.cell? ⟨w.heap.size, 2, none⟩ = some (.string l1) := (blk_cell X2.out.a 2).trans rfl
    have c13 : w2.cell? ⟨w.heap.size, 3, none⟩ = some (.string u1) := (blk_cell X2.out.a 3).trans rfl
    have c14 : w2.cell? ⟨w.heap.size, 4, none⟩ = some (.bool e1) := (blk_cell X2.out.a 4).trans rfl
    have c20 : w2.cell? ⟨w.heap.size + 1, 0, none⟩ = some (.int .i64 s2) := (blk_cell X2.out.b 0).trans rfl
    have c21 : w2.cell? ⟨w.heap.size + 1, 1, none⟩ = some (.string t2) := (blk_cell X2.out.b 1).trans rfl
    have c22 : w2.cell? ⟨w.heap.size + 1, 2, none⟩ = some (.string l2) := (blk_cell X2.out.b 2).trans rfl
    have c23 : w2.cell? ⟨w.heap.size + 1, 3, none⟩ = some (.string u2) := (blk_cell X2.out.b 3).trans rfl
    have c24 : w2.cell? ⟨w.heap.size + 1, 4, none⟩ = some (.bool e2) := (blk_cell X2.out.b 4).trans rfl
    cases p : up l1 s2 t2 l2 u2 e2 <;> rw [p] at he <;> subst he <;> (have P2 := Lib.hid p; clear p)
    · go_wp2_with fail
      all_goals go_ret
      all_goals exact ⟨ret_bool (by first | (simp [meetB, P1.out, P2.out]; done) | (simp [meetB, P1.out, P2.out, *]; done) | (have P1x := P1.out; have P2x := P2.out; simp_all [meetB]; done) | skip), G2.out⟩
    · go_wp2_with fail
      clear c10 c11 c12 c13 c14 c20 c21 c22 c23 c24
      refine (upto_any _ _ _ _ _ _ _ G2.out.self).mono ?_
      rintro e w3 ⟨he, hb⟩
      have X3 := Lib.hid (X2.out.step hb)
      have G3 := Lib.hid (G2.out.to hb)
      clear hb
      have c10 : w3.cell? ⟨w.heap.size, 0, none⟩ = some (.int .i64 s1) := (blk_cell X3.out.a 0).trans rfl
      have c11 : w3.cell? ⟨w.heap.size, 1, none⟩ = some (.string t1) := (blk_cell X3.out.a 1).trans rfl
      have c12 : w3.cell? ⟨w.heap.size, 2, none⟩ = some (.string l1) := (blk_cell X3.out.a 2).trans rfl
      have c13 : w3.cell? ⟨w.heap.size, 3, none⟩ = some (.string u1) := (blk_cell X3.out.a 3).trans rfl
      have c14 : w3.cell? ⟨w.heap.size, 4, none⟩ = some (.bool e1) := (blk_cell X3.out.a 4).trans rfl
      have c20 : w3.cell? ⟨w.heap.size + 1, 0, none⟩ = some (.int .i64 s2) := (blk_cell X3.out.b 0).trans rfl
      have c21 : w3.cell? ⟨w.heap.size + 1, 1, none⟩ = some (.string t2) := (blk_cell X3.out.b 1).trans rfl
      have c22 : w3.cell? ⟨w.heap.size + 1, 2, none⟩ = some (.string l2) := (blk_cell X3.out.b 2).trans rfl
      have c23 : w3.cell? ⟨w.heap.size + 1, 3, none⟩ = some (.string u2) := (blk_cell X3.out.b 3).trans rfl
      have c24 : w3.cell? ⟨w.heap.size + 1, 4, none⟩ = some (.bool e2) := (blk_cell X3.out.b 4).trans rfl
      cases p : up l2 s1 t1 l1 u1 e1 <;> rw [p] at he <;> subst he <;> (have P3 := Lib.hid p; clear p)
      · go_wp2_with fail
        all_goals go_ret
        all_goals exact ⟨ret_bool (by first | (simp [meetB, P1.out, P2.out, P3.out]; done) | (simp [meetB, P1.out, P2.out, P3.out, *]; done) | (have P1x := P1.out; have P2x := P2.out; have P3x := P3.out; simp_all [meetB]; done) | skip), G3.out⟩
      · go_wp2_with fail
        all_goals go_ret
        all_goals exact ⟨ret_bool (by first | (simp [meetB, P1.out, P2.out, P3.out]; done) | (simp [meetB, P1.out, P2.out, P3.out, *]; done) | (have P1x := P1.out; have P2x := P2.out; have P3x := P3.out; simp_all [meetB]; done) | skip), G3.out⟩
set_option maxHeartbeats 1000000 in
theorem within_any {w0 : World} (s1 : Int) (t1 l1 u1 : ByteArray) (e1 : Bool) (s2 : Int) (t2 l2 u2 : ByteArray) (e2 : Bool) (w : World) (g : St w0 w) : Calls Tryd.prog 23 #[.agg #[.int .i64 s1, .string t1, .string l1, .string u1, .bool e1], .agg #[.int .i64 s2, .string t2, .string l2, .string u2, .bool e2]] w fun e' w' => e' = .returned (.bool (withB s1 t1 l1 u1 e1 s2 t2 l2 u2 e2)) ∧ St w0 w' := by
  have G := Lib.hid ((g.alloc (.cells #[.int .i64 s1, .string t1, .string l1, .string u1, .bool e1] 31)).alloc (.cells #[.int .i64 s2, .string t2, .string l2, .string u2, .bool e2] 31))
  have X := Lib.hid (Bx.start w #[.int .i64 s1, .string t1, .string l1, .string u1, .bool e1] #[.int .i64 s2, .string t2, .string l2, .string u2, .bool e2])
  clear g
  go_enter Tryd.func23, Tryd.ntmps23
  go_wp2_with fail
  refine (alike_any _ _ _ _ _ _ _ _ _ _ _ G.out.self).mono ?_
  rintro e w1 ⟨he, hb⟩
  have X1 := Lib.hid (X.out.step hb)
  have G1 := Lib.hid (G.out.to hb)
  clear hb
  have c10 : w1.cell? ⟨w.heap.size, 0, none⟩ = some (.int .i64 s1) := (blk_cell X1.out.a 0).trans rfl
  have c11 : w1.cell? ⟨w.heap.size, 1, none⟩ = some (.string t1) := (blk_cell X1.out.a 1).trans rfl
  have c12 : w1.cell? ⟨w.heap.size, 2, none⟩ = some (.string l1) := (blk_cell X1.out.a 2).trans rfl
  have c13 : w1.cell? ⟨w.heap.size, 3, none⟩ = some (.string u1) := (blk_cell X1.out.a 3).trans rfl
  have c14 : w1.cell? ⟨w.heap.size, 4, none⟩ = some (.bool e1) := (blk_cell X1.out.a 4).trans rfl
  have c20 : w1.cell? ⟨w.heap.size + 1, 0, none⟩ = some (.int .i64 s2) := (blk_cell X1.out.b 0).trans rfl
  have c21 : w1.cell? ⟨w.heap.size + 1, 1, none⟩ = some (.string t2) := (blk_cell X1.out.b 1).trans rfl
  have c22 : w1.cell? ⟨w.heap.size + 1, 2, none⟩ = some (.string l2) := (blk_cell X1.out.b 2).trans rfl
  have c23 : w1.cell? ⟨w.heap.size + 1, 3, none⟩ = some (.string u2) := (blk_cell X1.out.b 3).trans rfl
  have c24 : w1.cell? ⟨w.heap.size + 1, 4, none⟩ = some (.bool e2) := (blk_cell X1.out.b 4).trans rfl
  cases p : al s1 t1 l1 u1 e1 s2 t2 l2 u2 e2 <;> rw [p] at he <;> subst he <;> (have P1 := Lib.hid p; clear p)
  · go_wp2_with fail
    all_goals go_ret
    all_goals exact ⟨ret_bool (by first | (simp [withB, P1.out]; done) | (simp [withB, P1.out, *]; done) | (have P1x := P1.out; simp_all [withB]; done) | skip), G1.out⟩
  · cases q1 : Op.bytesLess l1.toList l2.toList <;> cases e2 <;> cases e1
    any_goals (go_wp2_with fail; go_ret; exact ⟨ret_bool (by simp [withB, P1.out, q1]), G1.out⟩)
    go_wp2_with fail
    clear c10 c11 c12 c13 c14 c20 c21 c22 c23 c24
    refine (upto_any _ _ _ _ _ _ _ G1.out.self).mono ?_
    rintro e w2 ⟨he, hb⟩
    have X2 := Lib.hid (X1.out.step hb)
    have G2 := Lib.hid (G1.out.to hb)
    clear hb
    have c10 : w2.cell? ⟨w.heap.size, 0, none⟩ = some (.int .i64 s1) := (blk_cell X2.out.a 0).trans rfl
    have c11 : w2.cell? ⟨w.heap.size, 1, none⟩ = some (.string t1) := (blk_cell X2.out.a 1).trans rfl
    have c12 : w2.cell? ⟨w.heap.size, 2, none⟩ = some (.string l1) := (blk_cell X2.out.a 2).trans rfl
    have c13 : w2.cell? ⟨w.heap.size, 3, none⟩ = some (.string u1) := (blk_cell X2.out.a 3).trans rfl
    have c14 : w2.cell? ⟨w.heap.size, 4, none⟩ = some (.bool false) := (blk_cell X2.out.a 4).trans rfl
    have c20 : w2.cell? ⟨w.heap.size + 1, 0, none⟩ = some (.int .i64 s2) := (blk_cell X2.out.b 0).trans rfl
    have c21 : w2.cell? ⟨w.heap.size + 1, 1, none⟩ = some (.string t2) := (blk_cell X2.out.b 1).trans rfl
    have c22 : w2.cell? ⟨w.heap.size + 1, 2, none⟩ = some (.string l2) := (blk_cell X2.out.b 2).trans rfl
    have c23 : w2.cell? ⟨w.heap.size + 1, 3, none⟩ = some (.string u2) := (blk_cell X2.out.b 3).trans rfl
    have c24 : w2.cell? ⟨w.heap.size + 1, 4, none⟩ = some (.bool false) := (blk_cell X2.out.b 4).trans rfl
    cases p : up u1 s2 t2 l2 u2 false <;> rw [p] at he <;> subst he <;> (have P2 := Lib.hid p; clear p)
    · go_wp2_with fail
      all_goals go_ret
      all_goals exact ⟨ret_bool (by first | (simp [withB, P1.out, P2.out, q1]; done) | (simp [withB, P1.out, P2.out, q1, *]; done) | (have P1x := P1.out; have P2x := P2.out; simp_all [withB]; done) | skip), G2.out⟩
    · go_wp2_with fail
      all_goals go_ret
      all_goals exact ⟨ret_bool (by first | (simp [withB, P1.out, P2.out, q1]; done) | (simp [withB, P1.out, P2.out, q1, *]; done) | (have P1x := P1.out; have P2x := P2.out; simp_all [withB]; done) | skip), G2.out⟩
theorem al_space {s1 : Int} {t1 l1 u1 : ByteArray} {e1 : Bool} {s2 : Int} {t2 l2 u2 : ByteArray} {e2 : Bool} (h0 : al s1 t1 l1 u1 e1 s2 t2 l2 u2 e2 = true) : s1 = s2 := by simp [al] at h0; exact h0.1.2
theorem pl_plain {s : Int} {t l u : ByteArray} {e : Bool} (h0 : pl s t l u e = true) (h1 : s < 2) : l.toList = [] ∧ u.toList = [] ∧ e = false := by
  by_cases h2 : s < 0
  · rw [pl_neg _ _ _ _ _ h2] at h0; cases h0
  · have : s = 0 ∨ s = 1 := by omega
    rcases this with rfl | rfl
    · rw [pl_0] at h0; simp at h0; exact ⟨h0.1.1.2, h0.1.2, h0.2⟩
    · rw [pl_1] at h0; simp at h0; exact ⟨h0.1.1.2, h0.1.2, h0.2⟩
theorem al_plain {s1 s2 : Int} {t1 l1 u1 t2 l2 u2 : ByteArray} {e1 e2 : Bool} (h0 : al s1 t1 l1 u1 e1 s2 t2 l2 u2 e2 = true) (h1 : s1 < 2) : l1.toList = [] ∧ l2.toList = [] ∧ u1.toList = [] ∧ u2.toList = [] ∧ e1 = false ∧ e2 = false := by
  have hs := al_space h0
  simp [al] at h0
  have a := pl_plain h0.1.1.1 h1
  have b := pl_plain h0.1.1.2 (by omega)
  exact ⟨a.1, b.1, a.2.1, b.2.1, a.2.2, b.2.2⟩
set_option maxHeartbeats 2000000 in
theorem rmeet_any {w0 : World} (s1 : Int) (t1 l1 u1 : ByteArray) (e1 : Bool) (s2 : Int) (t2 l2 u2 : ByteArray) (e2 : Bool) (w : World) (g : St w0 w) : Calls Tryd.prog 22 #[.agg #[.int .i64 s1, .string t1, .string l1, .string u1, .bool e1], .agg #[.int .i64 s2, .string t2, .string l2, .string u2, .bool e2]] w fun e' w' => e' = .returned (.bool (meetB s1 t1 l1 u1 e1 s2 t2 l2 u2 e2)) ∧ St w0 w' := by
  have G := Lib.hid ((g.alloc (.cells #[.int .i64 s1, .string t1, .string l1, .string u1, .bool e1] 31)).alloc (.cells #[.int .i64 s2, .string t2, .string l2, .string u2, .bool e2] 31))
  have X := Lib.hid (Bx.start w #[.int .i64 s1, .string t1, .string l1, .string u1, .bool e1] #[.int .i64 s2, .string t2, .string l2, .string u2, .bool e2])
  clear g
  go_enter Tryd.func22, Tryd.ntmps22
  go_wp2_with fail
  refine (both_any _ _ _ _ _ _ _ _ _ _ _ G.out.self).mono ?_
  rintro e w1 ⟨he, hb⟩
  have X1 := Lib.hid (X.out.step hb)
  have G1 := Lib.hid (G.out.to hb)
  clear hb
  have c10 : w1.cell? ⟨w.heap.size, 0, none⟩ = some (.int .i64 s1) := (blk_cell X1.out.a 0).trans rfl
  have c11 : w1.cell? ⟨w.heap.size, 1, none⟩ = some (.string t1) := (blk_cell X1.out.a 1).trans rfl
  have c12 : w1.cell? ⟨w.heap.size, 2, none⟩ = some (.string l1) := (blk_cell X1.out.a 2).trans rfl
  have c13 : w1.cell? ⟨w.heap.size, 3, none⟩ = some (.string u1) := (blk_cell X1.out.a 3).trans rfl
  have c14 : w1.cell? ⟨w.heap.size, 4, none⟩ = some (.bool e1) := (blk_cell X1.out.a 4).trans rfl
  have c20 : w1.cell? ⟨w.heap.size + 1, 0, none⟩ = some (.int .i64 s2) := (blk_cell X1.out.b 0).trans rfl
  have c21 : w1.cell? ⟨w.heap.size + 1, 1, none⟩ = some (.string t2) := (blk_cell X1.out.b 1).trans rfl
  have c22 : w1.cell? ⟨w.heap.size + 1, 2, none⟩ = some (.string l2) := (blk_cell X1.out.b 2).trans rfl
  have c23 : w1.cell? ⟨w.heap.size + 1, 3, none⟩ = some (.string u2) := (blk_cell X1.out.b 3).trans rfl
  have c24 : w1.cell? ⟨w.heap.size + 1, 4, none⟩ = some (.bool e2) := (blk_cell X1.out.b 4).trans rfl
  cases p : al s1 t1 l1 u1 e1 s2 t2 l2 u2 e2 <;> rw [p] at he <;> subst he <;> (have P1 := Lib.hid p; clear p)
  · go_wp2_with fail
    all_goals go_ret
    all_goals exact ⟨ret_bool (by first | (simp [meetB, P1.out]; done) | (simp [meetB, P1.out, *]; done) | (have P1x := P1.out; simp_all [meetB]; done) | skip), G1.out⟩
  · have hs := Lib.hid (al_space P1.out)
    by_cases q0 : s1 < 2 <;> cases e1 <;> cases e2
    all_goals go_wp2_with fail
    all_goals go_ret
    all_goals refine ⟨ret_bool ?_, G1.out⟩
    all_goals (have q2 := hs.out; subst q2)
    all_goals (by_cases q5 : s1 < 2)
    all_goals first | (exfalso; omega) | (have q6 := al_plain P1.out q5; simp_all [meetB, up, Op.bytesLess, P1.out]; done) | (simp [meetB, up, P1.out, q5, *]; done) | (simp only [meetB, up, P1.out, q5]; cases k1 : Op.bytesLess l1.toList u2.toList <;> cases k2 : (l1.toList == u2.toList) <;> cases k3 : Op.bytesLess l1.toList l2.toList <;> simp_all; done) | skip
set_option maxHeartbeats 2000000 in
theorem rwithin_any {w0 : World} (s1 : Int) (t1 l1 u1 : ByteArray) (e1 : Bool) (s2 : Int) (t2 l2 u2 : ByteArray) (e2 : Bool) (w : World) (g : St w0 w) : Calls Tryd.prog 24 #[.agg #[.int .i64 s1, .string t1, .string l1, .string u1, .bool e1], .agg #[.int .i64 s2, .string t2, .string l2, .string u2, .bool e2]] w fun e' w' => e' = .returned (.bool (withB s1 t1 l1 u1 e1 s2 t2 l2 u2 e2)) ∧ St w0 w' := by
  have G := Lib.hid ((g.alloc (.cells #[.int .i64 s1, .string t1, .string l1, .string u1, .bool e1] 31)).alloc (.cells #[.int .i64 s2, .string t2, .string l2, .string u2, .bool e2] 31))
  have X := Lib.hid (Bx.start w #[.int .i64 s1, .string t1, .string l1, .string u1, .bool e1] #[.int .i64 s2, .string t2, .string l2, .string u2, .bool e2])
  clear g
  go_enter Tryd.func24, Tryd.ntmps24
  go_wp2_with fail
  refine (both_any _ _ _ _ _ _ _ _ _ _ _ G.out.self).mono ?_
  rintro e w1 ⟨he, hb⟩
  have X1 := Lib.hid (X.out.step hb)
  have G1 := Lib.hid (G.out.to hb)
  clear hb
  have c10 : w1.cell? ⟨w.heap.size, 0, none⟩ = some (.int .i64 s1) := (blk_cell X1.out.a 0).trans rfl
  have c11 : w1.cell? ⟨w.heap.size, 1, none⟩ = some (.string t1) := (blk_cell X1.out.a 1).trans rfl
  have c12 : w1.cell? ⟨w.heap.size, 2, none⟩ = some (.string l1) := (blk_cell X1.out.a 2).trans rfl
  have c13 : w1.cell? ⟨w.heap.size, 3, none⟩ = some (.string u1) := (blk_cell X1.out.a 3).trans rfl
  have c14 : w1.cell? ⟨w.heap.size, 4, none⟩ = some (.bool e1) := (blk_cell X1.out.a 4).trans rfl
  have c20 : w1.cell? ⟨w.heap.size + 1, 0, none⟩ = some (.int .i64 s2) := (blk_cell X1.out.b 0).trans rfl
  have c21 : w1.cell? ⟨w.heap.size + 1, 1, none⟩ = some (.string t2) := (blk_cell X1.out.b 1).trans rfl
  have c22 : w1.cell? ⟨w.heap.size + 1, 2, none⟩ = some (.string l2) := (blk_cell X1.out.b 2).trans rfl
  have c23 : w1.cell? ⟨w.heap.size + 1, 3, none⟩ = some (.string u2) := (blk_cell X1.out.b 3).trans rfl
  have c24 : w1.cell? ⟨w.heap.size + 1, 4, none⟩ = some (.bool e2) := (blk_cell X1.out.b 4).trans rfl
  cases p : al s1 t1 l1 u1 e1 s2 t2 l2 u2 e2 <;> rw [p] at he <;> subst he <;> (have P1 := Lib.hid p; clear p)
  · go_wp2_with fail
    all_goals go_ret
    all_goals exact ⟨ret_bool (by first | (simp [withB, P1.out]; done) | (simp [withB, P1.out, *]; done) | (have P1x := P1.out; simp_all [withB]; done) | skip), G1.out⟩
  · have hs := Lib.hid (al_space P1.out)
    by_cases q0 : s1 < 2 <;> cases e1 <;> cases e2
    all_goals go_wp2_with fail
    all_goals go_ret
    all_goals refine ⟨ret_bool ?_, G1.out⟩
    all_goals (have q2 := hs.out; subst q2)
    all_goals (by_cases q5 : s1 < 2)
    all_goals first | (exfalso; omega) | (have q6 := al_plain P1.out q5; simp_all [withB, up, Op.bytesLess, P1.out]; done) | (simp [withB, up, P1.out, q5, *]; done) | (simp only [withB, up, P1.out, q5]; cases k1 : Op.bytesLess l1.toList u2.toList <;> cases k2 : (l1.toList == u2.toList) <;> cases k3 : Op.bytesLess l1.toList l2.toList <;> simp_all; done) | skip
end Md
end Go.Proofs.YthgklkmkciljmaaDoor
