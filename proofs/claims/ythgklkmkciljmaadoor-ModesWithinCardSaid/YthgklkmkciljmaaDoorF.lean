/- The modes of locks: the laws on objects. -/
import Derived.Test.YthgklkmkciljmaaDoorE
import Derived.Deep.RegionHeld3
namespace Go.Proofs.YthgklkmkciljmaaDoor
open Go.RowKit
set_option linter.unusedVariables false
set_option linter.unusedSimpArgs false
namespace Md
/-- what is known of the world in a law over two objects -/
structure Two (w0 w v : World) (s1 : Int) (t1 l1 u1 : ByteArray) (e1 : Bool) (s2 : Int) (t2 l2 u2 : ByteArray) (e2 : Bool) : Prop where
  s : St w0 v
  x : Bx w v #[.int .i64 s1, .string t1, .string l1, .string u1, .bool e1] #[.int .i64 s2, .string t2, .string l2, .string u2, .bool e2]
theorem Two.to {w0 w v v' : World} {s1 : Int} {t1 l1 u1 : ByteArray} {e1 : Bool} {s2 : Int} {t2 l2 u2 : ByteArray} {e2 : Bool} (h : Two w0 w v s1 t1 l1 u1 e1 s2 t2 l2 u2 e2) (k : St v v') : Two w0 w v' s1 t1 l1 u1 e1 s2 t2 l2 u2 e2 := ⟨h.s.to k, h.x.step k⟩
theorem Two.drew {w0 w v : World} {s1 : Int} {t1 l1 u1 : ByteArray} {e1 : Bool} {s2 : Int} {t2 l2 u2 : ByteArray} {e2 : Bool} (h : Two w0 w v s1 t1 l1 u1 e1 s2 t2 l2 u2 e2) : Two w0 w v.drew s1 t1 l1 u1 e1 s2 t2 l2 u2 e2 := ⟨h.s.drew, ⟨h.x.a, h.x.b, h.x.z⟩⟩
theorem Two.cells {w0 w v : World} {s1 : Int} {t1 l1 u1 : ByteArray} {e1 : Bool} {s2 : Int} {t2 l2 u2 : ByteArray} {e2 : Bool} (h : Two w0 w v s1 t1 l1 u1 e1 s2 t2 l2 u2 e2) : v.cell? ⟨w.heap.size, 0, none⟩ = some (.int .i64 s1) ∧ v.cell? ⟨w.heap.size, 1, none⟩ = some (.string t1) ∧ v.cell? ⟨w.heap.size, 2, none⟩ = some (.string l1) ∧ v.cell? ⟨w.heap.size, 3, none⟩ = some (.string u1) ∧ v.cell? ⟨w.heap.size, 4, none⟩ = some (.bool e1) ∧ v.cell? ⟨w.heap.size + 1, 0, none⟩ = some (.int .i64 s2) ∧ v.cell? ⟨w.heap.size + 1, 1, none⟩ = some (.string t2) ∧ v.cell? ⟨w.heap.size + 1, 2, none⟩ = some (.string l2) ∧ v.cell? ⟨w.heap.size + 1, 3, none⟩ = some (.string u2) ∧ v.cell? ⟨w.heap.size + 1, 4, none⟩ = some (.bool e2) :=
  ⟨(blk_cell h.x.a 0).trans rfl, (blk_cell h.x.a 1).trans rfl, (blk_cell h.x.a 2).trans rfl, (blk_cell h.x.a 3).trans rfl, (blk_cell h.x.a 4).trans rfl, (blk_cell h.x.b 0).trans rfl, (blk_cell h.x.b 1).trans rfl, (blk_cell h.x.b 2).trans rfl, (blk_cell h.x.b 3).trans rfl, (blk_cell h.x.b 4).trans rfl⟩
theorem Two.all {w0 w v : World} {s1 : Int} {t1 l1 u1 : ByteArray} {e1 : Bool} {s2 : Int} {t2 l2 u2 : ByteArray} {e2 : Bool} (h : Two w0 w v s1 t1 l1 u1 e1 s2 t2 l2 u2 e2) : Two w0 w v s1 t1 l1 u1 e1 s2 t2 l2 u2 e2 ∧ v.cell? ⟨w.heap.size, 0, none⟩ = some (.int .i64 s1) ∧ v.cell? ⟨w.heap.size, 1, none⟩ = some (.string t1) ∧ v.cell? ⟨w.heap.size, 2, none⟩ = some (.string l1) ∧ v.cell? ⟨w.heap.size, 3, none⟩ = some (.string u1) ∧ v.cell? ⟨w.heap.size, 4, none⟩ = some (.bool e1) ∧ v.cell? ⟨w.heap.size + 1, 0, none⟩ = some (.int .i64 s2) ∧ v.cell? ⟨w.heap.size + 1, 1, none⟩ = some (.string t2) ∧ v.cell? ⟨w.heap.size + 1, 2, none⟩ = some (.string l2) ∧ v.cell? ⟨w.heap.size + 1, 3, none⟩ = some (.string u2) ∧ v.cell? ⟨w.heap.size + 1, 4, none⟩ = some (.bool e2) := ⟨h, h.cells⟩
set_option maxHeartbeats 4000000 in
set_option maxRecDepth 100000 in
theorem objects_law {w0 : World} (s1 : Int) (t1 l1 u1 : ByteArray) (e1 : Bool) (s2 : Int) (t2 l2 u2 : ByteArray) (e2 : Bool) (w : World) (g : St w0 w) : Calls Tryd.prog 6 #[.agg #[.int .i64 s1, .string t1, .string l1, .string u1, .bool e1], .agg #[.int .i64 s2, .string t2, .string l2, .string u2, .bool e2]] w fun e' w' => e' = .returned (.bool true) ∧ St w0 w' := by
  have T : Two w0 w ((w.alloc (.cells #[.int .i64 s1, .string t1, .string l1, .string u1, .bool e1] 31)).alloc (.cells #[.int .i64 s2, .string t2, .string l2, .string u2, .bool e2] 31)) s1 t1 l1 u1 e1 s2 t2 l2 u2 e2 := ⟨(g.alloc _).alloc _, Bx.start w _ _⟩
  clear g
  have C := T.cells
  go_enter Tryd.func6, Tryd.ntmps6
  go_wp2_with fail
  go_region_held3 (fun v => Two w0 w v s1 t1 l1 u1 e1 s2 t2 l2 u2 e2 ∧ v.cell? ⟨w.heap.size, 0, none⟩ = some (.int .i64 s1) ∧ v.cell? ⟨w.heap.size, 1, none⟩ = some (.string t1) ∧ v.cell? ⟨w.heap.size, 2, none⟩ = some (.string l1) ∧ v.cell? ⟨w.heap.size, 3, none⟩ = some (.string u1) ∧ v.cell? ⟨w.heap.size, 4, none⟩ = some (.bool e1) ∧ v.cell? ⟨w.heap.size + 1, 0, none⟩ = some (.int .i64 s2) ∧ v.cell? ⟨w.heap.size + 1, 1, none⟩ = some (.string t2) ∧ v.cell? ⟨w.heap.size + 1, 2, none⟩ = some (.string l2) ∧ v.cell? ⟨w.heap.size + 1, 3, none⟩ = some (.string u2) ∧ v.cell? ⟨w.heap.size + 1, 4, none⟩ = some (.bool e2)) (first | (go_split_ands; first | exact (Two.to (by assumption) hb).all | exact (Two.drew (by assumption)).all | exact Two.all (by assumption) ) | go_keep)
    (first | (go_at_call 9; go_split_ands; refine (alive_any _ (St.self (Two.s (by assumption : Two w0 w _ s1 t1 l1 u1 e1 s2 t2 l2 u2 e2)))).mono ?_; rintro e v ⟨rfl, hb⟩) | (go_at_call 19; go_split_ands; refine (place_any _ _ _ _ _ _ (St.self (Two.s (by assumption : Two w0 w _ s1 t1 l1 u1 e1 s2 t2 l2 u2 e2)))).mono ?_; rintro e v ⟨rfl, hb⟩) | (go_at_call 20; go_split_ands; refine (rplace_any _ _ _ _ _ _ (St.self (Two.s (by assumption : Two w0 w _ s1 t1 l1 u1 e1 s2 t2 l2 u2 e2)))).mono ?_; rintro e v ⟨rfl, hb⟩) | (go_at_call 21; go_split_ands; refine (meet_any _ _ _ _ _ _ _ _ _ _ _ (St.self (Two.s (by assumption : Two w0 w _ s1 t1 l1 u1 e1 s2 t2 l2 u2 e2)))).mono ?_; rintro e v ⟨rfl, hb⟩) | (go_at_call 22; go_split_ands; refine (rmeet_any _ _ _ _ _ _ _ _ _ _ _ (St.self (Two.s (by assumption : Two w0 w _ s1 t1 l1 u1 e1 s2 t2 l2 u2 e2)))).mono ?_; rintro e v ⟨rfl, hb⟩) | (go_at_call 23; go_split_ands; refine (within_any _ _ _ _ _ _ _ _ _ _ _ (St.self (Two.s (by assumption : Two w0 w _ s1 t1 l1 u1 e1 s2 t2 l2 u2 e2)))).mono ?_; rintro e v ⟨rfl, hb⟩) | (go_at_call 24; go_split_ands; refine (rwithin_any _ _ _ _ _ _ _ _ _ _ _ (St.self (Two.s (by assumption : Two w0 w _ s1 t1 l1 u1 e1 s2 t2 l2 u2 e2)))).mono ?_; rintro e v ⟨rfl, hb⟩))
  go_wp2
  go_ret
  refine ⟨rfl, ?_⟩
  clear T
  go_split_ands
  exact Two.s (by assumption : Two w0 w _ s1 t1 l1 u1 e1 s2 t2 l2 u2 e2)
end Md
end Go.Proofs.YthgklkmkciljmaaDoor
