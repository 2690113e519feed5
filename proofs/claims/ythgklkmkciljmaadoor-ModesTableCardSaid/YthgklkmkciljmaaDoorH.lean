/- The modes of locks: the laws on what lies within what. -/
import Derived.Test.YthgklkmkciljmaaDoorF
import Derived.Test.YthgklkmkciljmaaDoorG
import Derived.Deep.DeepCutAuto
import Derived.Deep.CutBlock
namespace Go.Proofs.YthgklkmkciljmaaDoor
open Go.RowKit
set_option linter.unusedVariables false
set_option linter.unusedSimpArgs false
namespace Md
/-- what is known of the world in a law over three objects -/
structure Tri (w0 w v : World) (s1 : Int) (t1 l1 u1 : ByteArray) (e1 : Bool) (s2 : Int) (t2 l2 u2 : ByteArray) (e2 : Bool) (s3 : Int) (t3 l3 u3 : ByteArray) (e3 : Bool) : Prop where
  s : St w0 v
  a : v.heap[w.heap.size]? = some (.cells #[.int .i64 s1, .string t1, .string l1, .string u1, .bool e1] 31)
  b : v.heap[w.heap.size + 1]? = some (.cells #[.int .i64 s2, .string t2, .string l2, .string u2, .bool e2] 31)
  c : v.heap[w.heap.size + 2]? = some (.cells #[.int .i64 s3, .string t3, .string l3, .string u3, .bool e3] 31)
  z : w.heap.size + 2 < v.heap.size
theorem Tri.to {w0 w v v' : World} {s1 : Int} {t1 l1 u1 : ByteArray} {e1 : Bool} {s2 : Int} {t2 l2 u2 : ByteArray} {e2 : Bool} {s3 : Int} {t3 l3 u3 : ByteArray} {e3 : Bool} (h : Tri w0 w v s1 t1 l1 u1 e1 s2 t2 l2 u2 e2 s3 t3 l3 u3 e3) (k : St v v') : Tri w0 w v' s1 t1 l1 u1 e1 s2 t2 l2 u2 e2 s3 t3 l3 u3 e3 :=
  ⟨h.s.to k, (k.b.block _ (by have := h.z; omega)).trans h.a, (k.b.block _ (by have := h.z; omega)).trans h.b, (k.b.block _ h.z).trans h.c, Nat.lt_of_lt_of_le h.z k.b.size⟩
theorem Tri.cells {w0 w v : World} {s1 : Int} {t1 l1 u1 : ByteArray} {e1 : Bool} {s2 : Int} {t2 l2 u2 : ByteArray} {e2 : Bool} {s3 : Int} {t3 l3 u3 : ByteArray} {e3 : Bool} (h : Tri w0 w v s1 t1 l1 u1 e1 s2 t2 l2 u2 e2 s3 t3 l3 u3 e3) : v.cell? ⟨w.heap.size, 0, none⟩ = some (.int .i64 s1) ∧ v.cell? ⟨w.heap.size, 1, none⟩ = some (.string t1) ∧ v.cell? ⟨w.heap.size, 2, none⟩ = some (.string l1) ∧ v.cell? ⟨w.heap.size, 3, none⟩ = some (.string u1) ∧ v.cell? ⟨w.heap.size, 4, none⟩ = some (.bool e1) ∧ v.cell? ⟨w.heap.size + 1, 0, none⟩ = some (.int .i64 s2) ∧ v.cell? ⟨w.heap.size + 1, 1, none⟩ = some (.string t2) ∧ v.cell? ⟨w.heap.size + 1, 2, none⟩ = some (.string l2) ∧ v.cell? ⟨w.heap.size + 1, 3, none⟩ = some (.string u2) ∧ v.cell? ⟨w.heap.size + 1, 4, none⟩ = some (.bool e2) ∧ v.cell? ⟨w.heap.size + 2, 0, none⟩ = some (.int .i64 s3) ∧ v.cell? ⟨w.heap.size + 2, 1, none⟩ = some (.string t3) ∧ v.cell? ⟨w.heap.size + 2, 2, none⟩ = some (.string l3) ∧ v.cell? ⟨w.heap.size + 2, 3, none⟩ = some (.string u3) ∧ v.cell? ⟨w.heap.size + 2, 4, none⟩ = some (.bool e3) :=
  ⟨(blk_cell h.a 0).trans rfl, (blk_cell h.a 1).trans rfl, (blk_cell h.a 2).trans rfl, (blk_cell h.a 3).trans rfl, (blk_cell h.a 4).trans rfl, (blk_cell h.b 0).trans rfl, (blk_cell h.b 1).trans rfl, (blk_cell h.b 2).trans rfl, (blk_cell h.b 3).trans rfl, (blk_cell h.b 4).trans rfl, (blk_cell h.c 0).trans rfl, (blk_cell h.c 1).trans rfl, (blk_cell h.c 2).trans rfl, (blk_cell h.c 3).trans rfl, (blk_cell h.c 4).trans rfl⟩
theorem Tri.start {w0 w : World} {s1 : Int} {t1 l1 u1 : ByteArray} {e1 : Bool} {s2 : Int} {t2 l2 u2 : ByteArray} {e2 : Bool} {s3 : Int} {t3 l3 u3 : ByteArray} {e3 : Bool} (g : St w0 w) : Tri w0 w (((w.alloc (.cells #[.int .i64 s1, .string t1, .string l1, .string u1, .bool e1] 31)).alloc (.cells #[.int .i64 s2, .string t2, .string l2, .string u2, .bool e2] 31)).alloc (.cells #[.int .i64 s3, .string t3, .string l3, .string u3, .bool e3] 31)) s1 t1 l1 u1 e1 s2 t2 l2 u2 e2 s3 t3 l3 u3 e3 where
  s := ((g.alloc _).alloc _).alloc _
  a := by rw [Below.heap_alloc _ _ _ (by simp; omega), Below.heap_alloc _ _ _ (by simp)]; show (w.heap.push _)[_]? = _; simp
  b := by rw [Below.heap_alloc _ _ _ (by simp)]; show ((w.heap.push _).push _)[_]? = _; rw [Array.getElem?_push, if_pos (by simp)]
  c := by show (((w.heap.push _).push _).push _)[_]? = _; rw [Array.getElem?_push, if_pos (by simp)]
  z := by simp
set_option maxHeartbeats 4000000 in
set_option maxRecDepth 100000 in
theorem within_law {w0 : World} (s1 : Int) (t1 l1 u1 : ByteArray) (e1 : Bool) (s2 : Int) (t2 l2 u2 : ByteArray) (e2 : Bool) (s3 : Int) (t3 l3 u3 : ByteArray) (e3 : Bool) (w : World) (g : St w0 w) : Calls Tryd.prog 8 #[.agg #[.int .i64 s1, .string t1, .string l1, .string u1, .bool e1], .agg #[.int .i64 s2, .string t2, .string l2, .string u2, .bool e2], .agg #[.int .i64 s3, .string t3, .string l3, .string u3, .bool e3]] w fun e' w' => e' = .returned (.bool true) ∧ St w0 w' := by
  have T := Lib.hid (Tri.start (s1 := s1) (t1 := t1) (l1 := l1) (u1 := u1) (e1 := e1) (s2 := s2) (t2 := t2) (l2 := l2) (u2 := u2) (e2 := e2) (s3 := s3) (t3 := t3) (l3 := l3) (u3 := u3) (e3 := e3) g)
  clear g
  obtain ⟨c10, c11, c12, c13, c14, c20, c21, c22, c23, c24, c30, c31, c32, c33, c34⟩ := T.out.cells
  go_enter Tryd.func8, Tryd.ntmps8
  clear c10 c11 c12 c13 c14 c20 c21 c22 c23 c24 c30 c31 c32 c33 c34
  go_upto_region 1 with (fail)
  go_cut [7] (fun v wc => v = .bool true ∧ Hid (Tri w0 w wc s1 t1 l1 u1 e1 s2 t2 l2 u2 e2 s3 t3 l3 u3 e3))
  case first =>
    all_goals obtain ⟨c10, c11, c12, c13, c14, c20, c21, c22, c23, c24, c30, c31, c32, c33, c34⟩ := T.out.cells
    all_goals go_wp2_with (first | (go_at_call 9; refine (alive_any _ (St.self T.out.s)).mono ?_; rintro e v ⟨rfl, hb⟩; have T' := Lib.hid (T.out.to hb); clear hb T c10 c11 c12 c13 c14 c20 c21 c22 c23 c24 c30 c31 c32 c33 c34; have T := T'; clear T'; obtain ⟨c10, c11, c12, c13, c14, c20, c21, c22, c23, c24, c30, c31, c32, c33, c34⟩ := T.out.cells) | (go_at_call 21; refine (meet_any _ _ _ _ _ _ _ _ _ _ _ (St.self T.out.s)).mono ?_; rintro e v ⟨rfl, hb⟩; have T' := Lib.hid (T.out.to hb); clear hb T c10 c11 c12 c13 c14 c20 c21 c22 c23 c24 c30 c31 c32 c33 c34; have T := T'; clear T'; obtain ⟨c10, c11, c12, c13, c14, c20, c21, c22, c23, c24, c30, c31, c32, c33, c34⟩ := T.out.cells) | (go_at_call 23; refine (within_any _ _ _ _ _ _ _ _ _ _ _ (St.self T.out.s)).mono ?_; rintro e v ⟨rfl, hb⟩; have T' := Lib.hid (T.out.to hb); clear hb T c10 c11 c12 c13 c14 c20 c21 c22 c23 c24 c30 c31 c32 c33 c34; have T := T'; clear T'; obtain ⟨c10, c11, c12, c13, c14, c20, c21, c22, c23, c24, c30, c31, c32, c33, c34⟩ := T.out.cells))
    all_goals go_meet
    all_goals refine ⟨congrArg Value.bool ?_, T⟩
    all_goals first | rfl | (simp [*]; done) | (have q := with_trans _ _ _ _ _ _ _ _ _ _ _ _ _ _ _ (by assumption : withB s1 t1 l1 u1 e1 s2 t2 l2 u2 e2 = true) (by assumption : withB s2 t2 l2 u2 e2 s3 t3 l3 u3 e3 = true); simp [*]; done)
  case rest =>
    clear T
    obtain ⟨rfl, T⟩ := hcut
    go_upto_region 2 with (fail)
    go_cut [8] (fun v wc => v = .bool true ∧ Hid (Tri w0 w wc s1 t1 l1 u1 e1 s2 t2 l2 u2 e2 s3 t3 l3 u3 e3))
    case first =>
      all_goals obtain ⟨c10, c11, c12, c13, c14, c20, c21, c22, c23, c24, c30, c31, c32, c33, c34⟩ := T.out.cells
      all_goals go_wp2_with (first | (go_at_call 9; refine (alive_any _ (St.self T.out.s)).mono ?_; rintro e v ⟨rfl, hb⟩; have T' := Lib.hid (T.out.to hb); clear hb T c10 c11 c12 c13 c14 c20 c21 c22 c23 c24 c30 c31 c32 c33 c34; have T := T'; clear T'; obtain ⟨c10, c11, c12, c13, c14, c20, c21, c22, c23, c24, c30, c31, c32, c33, c34⟩ := T.out.cells) | (go_at_call 21; refine (meet_any _ _ _ _ _ _ _ _ _ _ _ (St.self T.out.s)).mono ?_; rintro e v ⟨rfl, hb⟩; have T' := Lib.hid (T.out.to hb); clear hb T c10 c11 c12 c13 c14 c20 c21 c22 c23 c24 c30 c31 c32 c33 c34; have T := T'; clear T'; obtain ⟨c10, c11, c12, c13, c14, c20, c21, c22, c23, c24, c30, c31, c32, c33, c34⟩ := T.out.cells) | (go_at_call 23; refine (within_any _ _ _ _ _ _ _ _ _ _ _ (St.self T.out.s)).mono ?_; rintro e v ⟨rfl, hb⟩; have T' := Lib.hid (T.out.to hb); clear hb T c10 c11 c12 c13 c14 c20 c21 c22 c23 c24 c30 c31 c32 c33 c34; have T := T'; clear T'; obtain ⟨c10, c11, c12, c13, c14, c20, c21, c22, c23, c24, c30, c31, c32, c33, c34⟩ := T.out.cells))
      all_goals go_meet
      all_goals refine ⟨congrArg Value.bool ?_, T⟩
      all_goals first | rfl | (simp [*]; done) | (have q := with_meet _ _ _ _ _ _ _ _ _ _ _ _ _ _ _ (by assumption : withB s1 t1 l1 u1 e1 s2 t2 l2 u2 e2 = true) (by assumption : meetB s1 t1 l1 u1 e1 s3 t3 l3 u3 e3 = true); simp [*]; done)
    case rest =>
      clear T
      obtain ⟨rfl, T⟩ := hcut
      go_upto_region 3 with (fail)
      go_cut [9] (fun v wc => v = .bool true ∧ Hid (Tri w0 w wc s1 t1 l1 u1 e1 s2 t2 l2 u2 e2 s3 t3 l3 u3 e3))
      case first =>
        have hd : (s1 = s2 ∧ t1 = t2 ∧ l1 = l2 ∧ u1 = u2 ∧ e1 = e2) ∨ (withB s1 t1 l1 u1 e1 s2 t2 l2 u2 e2 = false) ∨ (withB s1 t1 l1 u1 e1 s2 t2 l2 u2 e2 = true ∧ withB s2 t2 l2 u2 e2 s1 t1 l1 u1 e1 = false) := by
          cases h1 : withB s1 t1 l1 u1 e1 s2 t2 l2 u2 e2
          · exact .inr (.inl rfl)
          · cases h2 : withB s2 t2 l2 u2 e2 s1 t1 l1 u1 e1
            · exact .inr (.inr ⟨rfl, rfl⟩)
            · exact .inl (with_anti _ _ _ _ _ _ _ _ _ _ h1 h2)
        rcases hd with ⟨rfl, rfl, rfl, rfl, rfl⟩ | h1 | ⟨h1, h2⟩
        all_goals obtain ⟨c10, c11, c12, c13, c14, c20, c21, c22, c23, c24, c30, c31, c32, c33, c34⟩ := T.out.cells
        all_goals go_wp2_with (first | (go_at_call 9; refine (alive_any _ (St.self T.out.s)).mono ?_; rintro e v ⟨rfl, hb⟩; have T' := Lib.hid (T.out.to hb); clear hb T c10 c11 c12 c13 c14 c20 c21 c22 c23 c24 c30 c31 c32 c33 c34; have T := T'; clear T'; obtain ⟨c10, c11, c12, c13, c14, c20, c21, c22, c23, c24, c30, c31, c32, c33, c34⟩ := T.out.cells) | (go_at_call 21; refine (meet_any _ _ _ _ _ _ _ _ _ _ _ (St.self T.out.s)).mono ?_; rintro e v ⟨rfl, hb⟩; have T' := Lib.hid (T.out.to hb); clear hb T c10 c11 c12 c13 c14 c20 c21 c22 c23 c24 c30 c31 c32 c33 c34; have T := T'; clear T'; obtain ⟨c10, c11, c12, c13, c14, c20, c21, c22, c23, c24, c30, c31, c32, c33, c34⟩ := T.out.cells) | (go_at_call 23; refine (within_any _ _ _ _ _ _ _ _ _ _ _ (St.self T.out.s)).mono ?_; rintro e v ⟨rfl, hb⟩; have T' := Lib.hid (T.out.to hb); clear hb T c10 c11 c12 c13 c14 c20 c21 c22 c23 c24 c30 c31 c32 c33 c34; have T := T'; clear T'; obtain ⟨c10, c11, c12, c13, c14, c20, c21, c22, c23, c24, c30, c31, c32, c33, c34⟩ := T.out.cells))
        all_goals go_meet
        all_goals refine ⟨congrArg Value.bool ?_, T⟩
        all_goals first | rfl | (simp [*]; done)
      case rest =>
        clear T
        obtain ⟨rfl, T⟩ := hcut
        obtain ⟨c10, c11, c12, c13, c14, c20, c21, c22, c23, c24, c30, c31, c32, c33, c34⟩ := T.out.cells
        go_wp2_with (first | (go_at_call 9; refine (alive_any _ (St.self T.out.s)).mono ?_; rintro e v ⟨rfl, hb⟩; have T' := Lib.hid (T.out.to hb); clear hb T c10 c11 c12 c13 c14 c20 c21 c22 c23 c24 c30 c31 c32 c33 c34; have T := T'; clear T'; obtain ⟨c10, c11, c12, c13, c14, c20, c21, c22, c23, c24, c30, c31, c32, c33, c34⟩ := T.out.cells) | (go_at_call 21; refine (meet_any _ _ _ _ _ _ _ _ _ _ _ (St.self T.out.s)).mono ?_; rintro e v ⟨rfl, hb⟩; have T' := Lib.hid (T.out.to hb); clear hb T c10 c11 c12 c13 c14 c20 c21 c22 c23 c24 c30 c31 c32 c33 c34; have T := T'; clear T'; obtain ⟨c10, c11, c12, c13, c14, c20, c21, c22, c23, c24, c30, c31, c32, c33, c34⟩ := T.out.cells) | (go_at_call 23; refine (within_any _ _ _ _ _ _ _ _ _ _ _ (St.self T.out.s)).mono ?_; rintro e v ⟨rfl, hb⟩; have T' := Lib.hid (T.out.to hb); clear hb T c10 c11 c12 c13 c14 c20 c21 c22 c23 c24 c30 c31 c32 c33 c34; have T := T'; clear T'; obtain ⟨c10, c11, c12, c13, c14, c20, c21, c22, c23, c24, c30, c31, c32, c33, c34⟩ := T.out.cells))
        go_ret
        exact ⟨rfl, T.out.s⟩
end Md
end Go.Proofs.YthgklkmkciljmaaDoor
