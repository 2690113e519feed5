/- SQL's values: a text behind another one. -/
import Derived.Test.YtlmkhpgnkpgbdaaDoorC
namespace Go.Proofs.YtlmkhpgnkpgbdaaDoor
open Go.RowKit
set_option linter.unusedVariables false
set_option linter.unusedSimpArgs false
namespace Vl
set_option maxRecDepth 100000 in
theorem con_f (p q : Nat) (a b : ByteArray) (w : World) (c1 : w.cell? ⟨p, 2, none⟩ = some (.string a)) (c2 : w.cell? ⟨q, 2, none⟩ = some (.string b)) (ha : a.size ≤ 140737488351232) (hb0 : b.size ≤ 140737488351232) (hk : (400 : Int) < (a.size : Int) + b.size) : Calls Tryd.prog 54 #[.pointer (some ⟨p, 0, none⟩), .pointer (some ⟨q, 0, none⟩)] w fun e w' => e = .returned (.tuple #[.agg #[.int .i64 0, .int .i64 0, .string E, .bool false], .string sLong]) ∧ Nw w w' := by
  have lp := World.block_lt_of_cell? w _ c1
  have lq := World.block_lt_of_cell? w _ c2
  simp only at lp lq
  go_enter Tryd.func54, Tryd.ntmps54
  go_wp2
  exact bodyPost_ret (v := .tuple #[.agg #[.int .i64 0, .int .i64 0, .string E, .bool false], .string sLong]) (by simp [results, Tryd.results54, go_sem]) rfl ⟨rfl, (by repeat (first | exact Nw.refl _ | assumption | apply Nw.alloc | apply Nw.drew | refine Nw.setCell ?_ (by simp <;> omega) _))⟩
set_option maxRecDepth 100000 in
theorem con_t (p q : Nat) (a b : ByteArray) (w : World) (c1 : w.cell? ⟨p, 2, none⟩ = some (.string a)) (c2 : w.cell? ⟨q, 2, none⟩ = some (.string b)) (ha : a.size ≤ 140737488351232) (hb0 : b.size ≤ 140737488351232) (hk : ¬ (400 : Int) < (a.size : Int) + b.size) : Calls Tryd.prog 54 #[.pointer (some ⟨p, 0, none⟩), .pointer (some ⟨q, 0, none⟩)] w fun e w' => e = .returned (.tuple #[.agg #[.int .i64 2, .int .i64 0, .string (a ++ b), .bool false], .string sDone]) ∧ Nw w w' := by
  have lp := World.block_lt_of_cell? w _ c1
  have lq := World.block_lt_of_cell? w _ c2
  simp only at lp lq
  go_enter Tryd.func54, Tryd.ntmps54
  go_wp2_with fail
  refine (text_any _ _).mono ?_
  rintro e w1 ⟨rfl, hb⟩
  obtain ⟨q1, q2⟩ := hb.at_ w.heap.size (by simp)
  have hz := hb.size
  (try simp at hz)
  have G := Lib.hid (((Nw.refl w).alloc _).to hb)
  clear hb
  go_wp2_with fail
  exact bodyPost_ret (v := .tuple #[.agg #[.int .i64 2, .int .i64 0, .string (a ++ b), .bool false], .string sDone]) (by simp [results, Tryd.results54, go_sem, q1]) rfl ⟨rfl, (by repeat (first | exact Nw.refl _ | exact G.out | apply Nw.alloc | apply Nw.drew | refine Nw.setCell ?_ (by simp <;> omega) _))⟩
end Vl
end Go.Proofs.YtlmkhpgnkpgbdaaDoor
