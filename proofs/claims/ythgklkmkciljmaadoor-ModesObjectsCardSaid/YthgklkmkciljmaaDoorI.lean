/- The modes of locks: the law on keys. -/
import Derived.Test.YthgklkmkciljmaaDoorH
namespace Go.Proofs.YthgklkmkciljmaaDoor
open Go.RowKit
set_option linter.unusedVariables false
set_option linter.unusedSimpArgs false
namespace Md
theorem meet_ba {w0 : World} (l1 u1 : ByteArray) (e1 : Bool) (l2 u2 : ByteArray) (e2 : Bool) (w : World) (g : St w0 w) : Calls Tryd.prog 21 #[.agg #[.int .i64 2, .string ⟨#[116]⟩, .string l2, .string u2, .bool e2], .agg #[.int .i64 2, .string ⟨#[116]⟩, .string l1, .string u1, .bool e1]] w fun e' w' => e' = .returned (.bool (meetB 2 ⟨#[116]⟩ l1 u1 e1 2 ⟨#[116]⟩ l2 u2 e2)) ∧ St w0 w' := by
  rw [meet_comm]; exact meet_any _ _ _ _ _ _ _ _ _ _ w g
theorem meet_pa {w0 : World} (l1 u1 : ByteArray) (e1 : Bool) (k : ByteArray) (w : World) (g : St w0 w) : Calls Tryd.prog 21 #[.agg #[.int .i64 2, .string ⟨#[116]⟩, .string k, .string k, .bool false], .agg #[.int .i64 2, .string ⟨#[116]⟩, .string l1, .string u1, .bool e1]] w fun e' w' => e' = .returned (.bool (withB 2 ⟨#[116]⟩ k k false 2 ⟨#[116]⟩ l1 u1 e1)) ∧ St w0 w' := by
  rw [key_meets]; exact meet_any _ _ _ _ _ _ _ _ _ _ w g
theorem Tri.all {w0 w v : World} {l1 u1 l2 u2 k : ByteArray} {e1 e2 : Bool} (h : Tri w0 w v 2 ⟨#[116]⟩ l1 u1 e1 2 ⟨#[116]⟩ l2 u2 e2 2 ⟨#[116]⟩ k k false) : Tri w0 w v 2 ⟨#[116]⟩ l1 u1 e1 2 ⟨#[116]⟩ l2 u2 e2 2 ⟨#[116]⟩ k k false ∧ v.cell? ⟨w.heap.size, 0, none⟩ = some (.int .i64 2) ∧ v.cell? ⟨w.heap.size, 1, none⟩ = some (.string ⟨#[116]⟩) ∧ v.cell? ⟨w.heap.size, 2, none⟩ = some (.string l1) ∧ v.cell? ⟨w.heap.size, 3, none⟩ = some (.string u1) ∧ v.cell? ⟨w.heap.size, 4, none⟩ = some (.bool e1) ∧ v.cell? ⟨w.heap.size + 1, 0, none⟩ = some (.int .i64 2) ∧ v.cell? ⟨w.heap.size + 1, 1, none⟩ = some (.string ⟨#[116]⟩) ∧ v.cell? ⟨w.heap.size + 1, 2, none⟩ = some (.string l2) ∧ v.cell? ⟨w.heap.size + 1, 3, none⟩ = some (.string u2) ∧ v.cell? ⟨w.heap.size + 1, 4, none⟩ = some (.bool e2) ∧ v.cell? ⟨w.heap.size + 2, 0, none⟩ = some (.int .i64 2) ∧ v.cell? ⟨w.heap.size + 2, 1, none⟩ = some (.string ⟨#[116]⟩) ∧ v.cell? ⟨w.heap.size + 2, 2, none⟩ = some (.string k) ∧ v.cell? ⟨w.heap.size + 2, 3, none⟩ = some (.string k) ∧ v.cell? ⟨w.heap.size + 2, 4, none⟩ = some (.bool false) := ⟨h, h.cells⟩
theorem Tri.drew {w0 w v : World} {l1 u1 l2 u2 k : ByteArray} {e1 e2 : Bool} (h : Tri w0 w v 2 ⟨#[116]⟩ l1 u1 e1 2 ⟨#[116]⟩ l2 u2 e2 2 ⟨#[116]⟩ k k false) : Tri w0 w v.drew 2 ⟨#[116]⟩ l1 u1 e1 2 ⟨#[116]⟩ l2 u2 e2 2 ⟨#[116]⟩ k k false := ⟨h.s.drew, h.a, h.b, h.c, h.z⟩
set_option maxHeartbeats 4000000 in
set_option maxRecDepth 100000 in
theorem keys_law {w0 : World} (s1 : Int) (t1 l1 u1 : ByteArray) (e1 : Bool) (s2 : Int) (t2 l2 u2 : ByteArray) (e2 : Bool) (k : ByteArray) (w : World) (g : St w0 w) : Calls Tryd.prog 7 #[.agg #[.int .i64 s1, .string t1, .string l1, .string u1, .bool e1], .agg #[.int .i64 s2, .string t2, .string l2, .string u2, .bool e2], .string k] w fun e' w' => e' = .returned (.bool true) ∧ St w0 w' := by
  have T := Lib.hid (Tri.start (s1 := 2) (t1 := ⟨#[116]⟩) (l1 := l1) (u1 := u1) (e1 := e1) (s2 := 2) (t2 := ⟨#[116]⟩) (l2 := l2) (u2 := u2) (e2 := e2) (s3 := 2) (t3 := ⟨#[116]⟩) (l3 := k) (u3 := k) (e3 := false) g)
  clear g
  go_enter Tryd.func7, Tryd.ntmps7
  go_wp2_with fail
  refine (within_any _ _ _ _ _ _ _ _ _ _ _ (St.self T.out.s)).mono ?_
  rintro e v ⟨rfl, hb⟩
  have T' := Lib.hid (T.out.to hb)
  clear hb T
  have T := T'
  clear T'
  obtain ⟨c10, c11, c12, c13, c14, c20, c21, c22, c23, c24, c30, c31, c32, c33, c34⟩ := T.out.cells
  go_wp2_with fail
  refine (within_any _ _ _ _ _ _ _ _ _ _ _ (St.self T.out.s)).mono ?_
  rintro e v ⟨rfl, hb⟩
  have T' := Lib.hid (T.out.to hb)
  clear hb T c10 c11 c12 c13 c14 c20 c21 c22 c23 c24 c30 c31 c32 c33 c34
  have T := T'
  clear T'
  go_upto_region 8 with (fail)
  go_cut [10] (fun v wc => v = .bool true ∧ Hid (Tri w0 w wc 2 ⟨#[116]⟩ l1 u1 e1 2 ⟨#[116]⟩ l2 u2 e2 2 ⟨#[116]⟩ k k false))
  case first =>
    all_goals obtain ⟨c10, c11, c12, c13, c14, c20, c21, c22, c23, c24, c30, c31, c32, c33, c34⟩ := T.out.cells
    all_goals go_wp2_with (first | (go_at_call 9; refine (alive_any _ (St.self T.out.s)).mono ?_; rintro e v ⟨rfl, hb⟩; have T' := Lib.hid (T.out.to hb); clear hb T c10 c11 c12 c13 c14 c20 c21 c22 c23 c24 c30 c31 c32 c33 c34; have T := T'; clear T'; obtain ⟨c10, c11, c12, c13, c14, c20, c21, c22, c23, c24, c30, c31, c32, c33, c34⟩ := T.out.cells) | (go_at_call 19; refine (place_any _ _ _ _ _ _ (St.self T.out.s)).mono ?_; rintro e v ⟨rfl, hb⟩; have T' := Lib.hid (T.out.to hb); clear hb T c10 c11 c12 c13 c14 c20 c21 c22 c23 c24 c30 c31 c32 c33 c34; have T := T'; clear T'; obtain ⟨c10, c11, c12, c13, c14, c20, c21, c22, c23, c24, c30, c31, c32, c33, c34⟩ := T.out.cells) | (go_at_call 21; refine (meet_any _ _ _ _ _ _ _ _ _ _ _ (St.self T.out.s)).mono ?_; rintro e v ⟨rfl, hb⟩; have T' := Lib.hid (T.out.to hb); clear hb T c10 c11 c12 c13 c14 c20 c21 c22 c23 c24 c30 c31 c32 c33 c34; have T := T'; clear T'; obtain ⟨c10, c11, c12, c13, c14, c20, c21, c22, c23, c24, c30, c31, c32, c33, c34⟩ := T.out.cells) | (go_at_call 23; refine (within_any _ _ _ _ _ _ _ _ _ _ _ (St.self T.out.s)).mono ?_; rintro e v ⟨rfl, hb⟩; have T' := Lib.hid (T.out.to hb); clear hb T c10 c11 c12 c13 c14 c20 c21 c22 c23 c24 c30 c31 c32 c33 c34; have T := T'; clear T'; obtain ⟨c10, c11, c12, c13, c14, c20, c21, c22, c23, c24, c30, c31, c32, c33, c34⟩ := T.out.cells))
    all_goals go_meet
    all_goals refine ⟨congrArg Value.bool ?_, T⟩
    all_goals first | rfl | (simp [*]; done) | (have q := meet_self _ _ _ _ _ (by assumption : pl 2 ⟨#[116]⟩ l1 u1 e1 = true); have q' := with_self _ _ _ _ _ (by assumption : pl 2 ⟨#[116]⟩ l1 u1 e1 = true); simp [*]; done) | (have q := meet_self _ _ _ _ _ (by assumption : pl 2 ⟨#[116]⟩ l1 u1 e1 = true); have q' := with_self _ _ _ _ _ (by assumption : pl 2 ⟨#[116]⟩ l1 u1 e1 = true); simp_all; done)
  case rest =>
    clear T
    obtain ⟨rfl, T⟩ := hcut
    go_upto_region 9 with (fail)
    go_cut [8, 9, 11] (fun v8 v9 v wc => v8 = .bool (withB 2 ⟨#[116]⟩ k k false 2 ⟨#[116]⟩ l1 u1 e1) ∧ v9 = .bool (withB 2 ⟨#[116]⟩ k k false 2 ⟨#[116]⟩ l2 u2 e2) ∧ v = .bool true ∧ Hid (Tri w0 w wc 2 ⟨#[116]⟩ l1 u1 e1 2 ⟨#[116]⟩ l2 u2 e2 2 ⟨#[116]⟩ k k false))
    case first =>
      all_goals obtain ⟨c10, c11, c12, c13, c14, c20, c21, c22, c23, c24, c30, c31, c32, c33, c34⟩ := T.out.cells
      all_goals go_wp2_with (first | (go_at_call 9; refine (alive_any _ (St.self T.out.s)).mono ?_; rintro e v ⟨rfl, hb⟩; have T' := Lib.hid (T.out.to hb); clear hb T c10 c11 c12 c13 c14 c20 c21 c22 c23 c24 c30 c31 c32 c33 c34; have T := T'; clear T'; obtain ⟨c10, c11, c12, c13, c14, c20, c21, c22, c23, c24, c30, c31, c32, c33, c34⟩ := T.out.cells) | (go_at_call 19; refine (place_any _ _ _ _ _ _ (St.self T.out.s)).mono ?_; rintro e v ⟨rfl, hb⟩; have T' := Lib.hid (T.out.to hb); clear hb T c10 c11 c12 c13 c14 c20 c21 c22 c23 c24 c30 c31 c32 c33 c34; have T := T'; clear T'; obtain ⟨c10, c11, c12, c13, c14, c20, c21, c22, c23, c24, c30, c31, c32, c33, c34⟩ := T.out.cells) | (go_at_call 21; refine (meet_any _ _ _ _ _ _ _ _ _ _ _ (St.self T.out.s)).mono ?_; rintro e v ⟨rfl, hb⟩; have T' := Lib.hid (T.out.to hb); clear hb T c10 c11 c12 c13 c14 c20 c21 c22 c23 c24 c30 c31 c32 c33 c34; have T := T'; clear T'; obtain ⟨c10, c11, c12, c13, c14, c20, c21, c22, c23, c24, c30, c31, c32, c33, c34⟩ := T.out.cells) | (go_at_call 23; refine (within_any _ _ _ _ _ _ _ _ _ _ _ (St.self T.out.s)).mono ?_; rintro e v ⟨rfl, hb⟩; have T' := Lib.hid (T.out.to hb); clear hb T c10 c11 c12 c13 c14 c20 c21 c22 c23 c24 c30 c31 c32 c33 c34; have T := T'; clear T'; obtain ⟨c10, c11, c12, c13, c14, c20, c21, c22, c23, c24, c30, c31, c32, c33, c34⟩ := T.out.cells))
      all_goals go_meet
      all_goals refine ⟨congrArg Value.bool ?_, congrArg Value.bool ?_, congrArg Value.bool ?_, T⟩
      all_goals first | rfl | (simp [*]; done) | (have q := in_both _ _ _ _ _ _ _ _ _ _ _ _ (by assumption : withB 2 ⟨#[116]⟩ k k false 2 ⟨#[116]⟩ l1 u1 e1 = true) (by assumption : withB 2 ⟨#[116]⟩ k k false 2 ⟨#[116]⟩ l2 u2 e2 = true); simp [*]; done) | (have q := in_both _ _ _ _ _ _ _ _ _ _ _ _ (by assumption : withB 2 ⟨#[116]⟩ k k false 2 ⟨#[116]⟩ l1 u1 e1 = true) (by assumption : withB 2 ⟨#[116]⟩ k k false 2 ⟨#[116]⟩ l2 u2 e2 = true); simp_all; done)
    case rest =>
      clear T
      obtain ⟨rfl, rfl, rfl, T⟩ := hcut
      go_upto_region 10 with (fail)
      go_cut [8, 9, 12] (fun v8 v9 v wc => v8 = .bool (withB 2 ⟨#[116]⟩ k k false 2 ⟨#[116]⟩ l1 u1 e1) ∧ v9 = .bool (withB 2 ⟨#[116]⟩ k k false 2 ⟨#[116]⟩ l2 u2 e2) ∧ v = .bool true ∧ Hid (Tri w0 w wc 2 ⟨#[116]⟩ l1 u1 e1 2 ⟨#[116]⟩ l2 u2 e2 2 ⟨#[116]⟩ k k false))
      case first =>
        all_goals obtain ⟨c10, c11, c12, c13, c14, c20, c21, c22, c23, c24, c30, c31, c32, c33, c34⟩ := T.out.cells
        all_goals go_wp2_with (first | (go_at_call 9; refine (alive_any _ (St.self T.out.s)).mono ?_; rintro e v ⟨rfl, hb⟩; have T' := Lib.hid (T.out.to hb); clear hb T c10 c11 c12 c13 c14 c20 c21 c22 c23 c24 c30 c31 c32 c33 c34; have T := T'; clear T'; obtain ⟨c10, c11, c12, c13, c14, c20, c21, c22, c23, c24, c30, c31, c32, c33, c34⟩ := T.out.cells) | (go_at_call 19; refine (place_any _ _ _ _ _ _ (St.self T.out.s)).mono ?_; rintro e v ⟨rfl, hb⟩; have T' := Lib.hid (T.out.to hb); clear hb T c10 c11 c12 c13 c14 c20 c21 c22 c23 c24 c30 c31 c32 c33 c34; have T := T'; clear T'; obtain ⟨c10, c11, c12, c13, c14, c20, c21, c22, c23, c24, c30, c31, c32, c33, c34⟩ := T.out.cells) | (go_at_call 21; refine (meet_any _ _ _ _ _ _ _ _ _ _ _ (St.self T.out.s)).mono ?_; rintro e v ⟨rfl, hb⟩; have T' := Lib.hid (T.out.to hb); clear hb T c10 c11 c12 c13 c14 c20 c21 c22 c23 c24 c30 c31 c32 c33 c34; have T := T'; clear T'; obtain ⟨c10, c11, c12, c13, c14, c20, c21, c22, c23, c24, c30, c31, c32, c33, c34⟩ := T.out.cells) | (go_at_call 23; refine (within_any _ _ _ _ _ _ _ _ _ _ _ (St.self T.out.s)).mono ?_; rintro e v ⟨rfl, hb⟩; have T' := Lib.hid (T.out.to hb); clear hb T c10 c11 c12 c13 c14 c20 c21 c22 c23 c24 c30 c31 c32 c33 c34; have T := T'; clear T'; obtain ⟨c10, c11, c12, c13, c14, c20, c21, c22, c23, c24, c30, c31, c32, c33, c34⟩ := T.out.cells))
        all_goals go_meet
        all_goals refine ⟨congrArg Value.bool ?_, congrArg Value.bool ?_, congrArg Value.bool ?_, T⟩
        all_goals first | rfl | (simp [*]; done) | (have q := with_trans _ _ _ _ _ _ _ _ _ _ _ _ _ _ _ (by assumption : withB 2 ⟨#[116]⟩ k k false 2 ⟨#[116]⟩ l1 u1 e1 = true) (by assumption : withB 2 ⟨#[116]⟩ l1 u1 e1 2 ⟨#[116]⟩ l2 u2 e2 = true); simp [*]; done) | (have q := with_trans _ _ _ _ _ _ _ _ _ _ _ _ _ _ _ (by assumption : withB 2 ⟨#[116]⟩ k k false 2 ⟨#[116]⟩ l1 u1 e1 = true) (by assumption : withB 2 ⟨#[116]⟩ l1 u1 e1 2 ⟨#[116]⟩ l2 u2 e2 = true); simp_all; done)
      case rest =>
        clear T
        obtain ⟨rfl, rfl, rfl, T⟩ := hcut
        have TT := T.out
        clear T
        go_wp2_with fail
        obtain ⟨c10, c11, c12, c13, c14, c20, c21, c22, c23, c24, c30, c31, c32, c33, c34⟩ := TT.cells
        go_region_held3 (fun v => Tri w0 w v 2 ⟨#[116]⟩ l1 u1 e1 2 ⟨#[116]⟩ l2 u2 e2 2 ⟨#[116]⟩ k k false ∧ v.cell? ⟨w.heap.size, 0, none⟩ = some (.int .i64 2) ∧ v.cell? ⟨w.heap.size, 1, none⟩ = some (.string ⟨#[116]⟩) ∧ v.cell? ⟨w.heap.size, 2, none⟩ = some (.string l1) ∧ v.cell? ⟨w.heap.size, 3, none⟩ = some (.string u1) ∧ v.cell? ⟨w.heap.size, 4, none⟩ = some (.bool e1) ∧ v.cell? ⟨w.heap.size + 1, 0, none⟩ = some (.int .i64 2) ∧ v.cell? ⟨w.heap.size + 1, 1, none⟩ = some (.string ⟨#[116]⟩) ∧ v.cell? ⟨w.heap.size + 1, 2, none⟩ = some (.string l2) ∧ v.cell? ⟨w.heap.size + 1, 3, none⟩ = some (.string u2) ∧ v.cell? ⟨w.heap.size + 1, 4, none⟩ = some (.bool e2) ∧ v.cell? ⟨w.heap.size + 2, 0, none⟩ = some (.int .i64 2) ∧ v.cell? ⟨w.heap.size + 2, 1, none⟩ = some (.string ⟨#[116]⟩) ∧ v.cell? ⟨w.heap.size + 2, 2, none⟩ = some (.string k) ∧ v.cell? ⟨w.heap.size + 2, 3, none⟩ = some (.string k) ∧ v.cell? ⟨w.heap.size + 2, 4, none⟩ = some (.bool false)) (first | (go_split_ands; first | exact (Tri.to (by assumption) hb).all | exact (Tri.drew (by assumption)).all | exact Tri.all (by assumption) ) | go_keep)
          (first | (go_at_call 9; go_split_ands; (with_reducible refine (alive_any _ (St.self (Tri.s (by assumption : Tri w0 w _ 2 ⟨#[116]⟩ l1 u1 e1 2 ⟨#[116]⟩ l2 u2 e2 2 ⟨#[116]⟩ k k false)))).mono ?_); rintro e v ⟨rfl, hb⟩) | (go_at_call 21; go_split_ands; (with_reducible refine (meet_pa l1 u1 e1 k _ (St.self (Tri.s (by assumption : Tri w0 w _ 2 ⟨#[116]⟩ l1 u1 e1 2 ⟨#[116]⟩ l2 u2 e2 2 ⟨#[116]⟩ k k false)))).mono ?_); rintro e v ⟨rfl, hb⟩) | (go_at_call 21; go_split_ands; (with_reducible refine (meet_ba l1 u1 e1 l2 u2 e2 _ (St.self (Tri.s (by assumption : Tri w0 w _ 2 ⟨#[116]⟩ l1 u1 e1 2 ⟨#[116]⟩ l2 u2 e2 2 ⟨#[116]⟩ k k false)))).mono ?_); rintro e v ⟨rfl, hb⟩) | (go_at_call 21; go_split_ands; (with_reducible refine (meet_any _ _ _ _ _ _ _ _ _ _ _ (St.self (Tri.s (by assumption : Tri w0 w _ 2 ⟨#[116]⟩ l1 u1 e1 2 ⟨#[116]⟩ l2 u2 e2 2 ⟨#[116]⟩ k k false)))).mono ?_); rintro e v ⟨rfl, hb⟩))
        all_goals go_wp2
        all_goals go_ret
        all_goals (refine ⟨ret_bool ?_, ?_⟩)
        all_goals (try (go_split_ands; exact Tri.s (by assumption : Tri w0 w _ 2 ⟨#[116]⟩ l1 u1 e1 2 ⟨#[116]⟩ l2 u2 e2 2 ⟨#[116]⟩ k k false)))
        all_goals first | rfl | (simp [*]; done) | (simp_all; done)
end Md
end Go.Proofs.YthgklkmkciljmaaDoor
