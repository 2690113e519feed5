/- SQL's values: products. -/
import Derived.Test.YtlmkhpgnkpgbdaaDoorC
import Derived.Test.YtlmkhpgnkpgbdaaDoorShelf
import Derived.IntWalk
namespace Go.Proofs.YtlmkhpgnkpgbdaaDoor
open Go.RowKit
set_option linter.unusedVariables false
set_option linter.unusedSimpArgs false
namespace Vl
theorem Nw.drewN {a w : World} (h : Nw a w) (n : Nat) : Nw a (w.drewN n) := Below.trans h ⟨rfl, rfl, rfl, Nat.le_refl _, fun _ _ => rfl⟩
theorem size_any (n : Int) (w : World) (h0 : -9223372036854775808 ≤ n) (h1 : n ≤ 9223372036854775807) : Calls Tryd.prog 64 #[.int .i64 n] w fun e w' => e = .returned (.int .u64 (n.natAbs : Int)) ∧ w' = w := by
  by_cases h : n < 0
  · go_enter Tryd.func64, Tryd.ntmps64
    go_wp2
    go_ret
    exact ⟨ret_int (by rw [IntKind.wrap_u64, IntKind.wrap_u64]; omega), rfl⟩
  · go_enter Tryd.func64, Tryd.ntmps64
    go_wp2
    go_ret
    exact ⟨ret_int (by omega), rfl⟩
def mulOk (a b : Int) : Bool := decide (a.natAbs * b.natAbs / 18446744073709551616 = 0) && decide (((a.natAbs * b.natAbs % 18446744073709551616 : Nat) : Int) ≤ if (!(decide (a < 0) == decide (b < 0))) = true then 9223372036854775808 else 9223372036854775807)
theorem mulOk_of (a b hi lo m : Int) (b0 : Bool) (h : ((a.natAbs * b.natAbs / 18446744073709551616 : Nat) : Int) = hi) (l : ((a.natAbs * b.natAbs % 18446744073709551616 : Nat) : Int) = lo)
    (hs : (!(decide (a < 0) == decide (b < 0))) = b0) (hm : (if b0 = true then 9223372036854775808 else 9223372036854775807) = m) : mulOk a b = (decide (hi = 0) && decide (lo ≤ m)) := by
  subst h l hs hm
  unfold mulOk
  congr 1
  simp only [decide_eq_decide]
  omega
def szQ (a b hi lo : Int) : Prop := ∀ w : World, Calls Tryd.prog 63 #[.int .u64 (a.natAbs : Int), .int .u64 (b.natAbs : Int)] w fun e w' => e = .returned (.tuple #[.int .u64 hi, .int .u64 lo]) ∧ w' = w
set_option maxRecDepth 100000 in
set_option maxHeartbeats 1000000 in
theorem mul_0 (p q : Nat) (a b hi lo : Int) (w : World) (c1 : w.cell? ⟨p, 1, none⟩ = some (.int .i64 a)) (c2 : w.cell? ⟨q, 1, none⟩ = some (.int .i64 b)) (a0 : -9223372036854775808 ≤ a) (a1 : a ≤ 9223372036854775807) (b0 : -9223372036854775808 ≤ b) (b1 : b ≤ 9223372036854775807) (hz : szQ a b hi lo) (hs : (decide (a < 0) == decide (b < 0)) = false) (hh : (hi == 0) = true) (hl : decide (lo ≤ 9223372036854775808) = true) : Calls Tryd.prog 62 #[.pointer (some ⟨p, 0, none⟩), .pointer (some ⟨q, 0, none⟩)] w fun e w' => e = .returned (.tuple #[.agg #[.int .i64 1, .int .i64 (wrap64 (a * b)), .string E, .bool false], .string sDone]) ∧ Nw w w' := by
  have lp := World.block_lt_of_cell? w _ c1
  have lq := World.block_lt_of_cell? w _ c2
  simp only at lp lq
  have np : ¬ w.heap.size = p := by omega
  have nq : ¬ w.heap.size = q := by omega
  go_enter Tryd.func62, Tryd.ntmps62
  go_wp2_with fail
  go_quiet ((first | (go_at_call 64; exact Calls.quiet_of_same (size_any _ _ (by assumption) (by assumption))) | (go_at_call 63; exact Calls.quiet_of_same (hz _))))
  go_wp2_with fail
  refine (number_t _ _).mono ?_
  rintro e w1 ⟨rfl, hb⟩
  obtain ⟨q1, q2⟩ := hb.at_ w.heap.size (by simp)
  have hz := hb.size
  (try simp at hz)
  have G := Lib.hid hb
  clear hb
  go_wp2_with fail
  exact bodyPost_ret (v := .tuple #[.agg #[.int .i64 1, .int .i64 (wrap64 (a * b)), .string E, .bool false], .string sDone]) (by simp [results, Tryd.results62, go_sem, q1]) rfl ⟨rfl, by (first | refine Nw.setCell ?_ (by simp) _ | skip); (repeat refine Nw.setCell ?_ (by simp) _); exact Nw.to (Nw.drewN ((Nw.refl w).alloc _) _) G.out⟩
set_option maxRecDepth 100000 in
set_option maxHeartbeats 1000000 in
theorem mul_1 (p q : Nat) (a b hi lo : Int) (w : World) (c1 : w.cell? ⟨p, 1, none⟩ = some (.int .i64 a)) (c2 : w.cell? ⟨q, 1, none⟩ = some (.int .i64 b)) (a0 : -9223372036854775808 ≤ a) (a1 : a ≤ 9223372036854775807) (b0 : -9223372036854775808 ≤ b) (b1 : b ≤ 9223372036854775807) (hz : szQ a b hi lo) (hs : (decide (a < 0) == decide (b < 0)) = false) (hh : (hi == 0) = true) (hl : decide (lo ≤ 9223372036854775808) = false) : Calls Tryd.prog 62 #[.pointer (some ⟨p, 0, none⟩), .pointer (some ⟨q, 0, none⟩)] w fun e w' => e = .returned (.tuple #[.agg #[.int .i64 0, .int .i64 0, .string E, .bool false], .string sRange]) ∧ Nw w w' := by
  have lp := World.block_lt_of_cell? w _ c1
  have lq := World.block_lt_of_cell? w _ c2
  simp only at lp lq
  have np : ¬ w.heap.size = p := by omega
  have nq : ¬ w.heap.size = q := by omega
  go_enter Tryd.func62, Tryd.ntmps62
  go_wp2_with fail
  go_quiet ((first | (go_at_call 64; exact Calls.quiet_of_same (size_any _ _ (by assumption) (by assumption))) | (go_at_call 63; exact Calls.quiet_of_same (hz _))))
  go_wp2_with fail
  refine (number_f _ _).mono ?_
  rintro e w1 ⟨rfl, hb⟩
  obtain ⟨q1, q2⟩ := hb.at_ w.heap.size (by simp)
  have hz := hb.size
  (try simp at hz)
  have G := Lib.hid hb
  clear hb
  go_wp2_with fail
  exact bodyPost_ret (v := .tuple #[.agg #[.int .i64 0, .int .i64 0, .string E, .bool false], .string sRange]) (by simp [results, Tryd.results62, go_sem, q1]) rfl ⟨rfl, by (first | refine Nw.setCell ?_ (by simp) _ | skip); (repeat refine Nw.setCell ?_ (by simp) _); exact Nw.to (Nw.drewN ((Nw.refl w).alloc _) _) G.out⟩
set_option maxRecDepth 100000 in
set_option maxHeartbeats 1000000 in
theorem mul_2 (p q : Nat) (a b hi lo : Int) (w : World) (c1 : w.cell? ⟨p, 1, none⟩ = some (.int .i64 a)) (c2 : w.cell? ⟨q, 1, none⟩ = some (.int .i64 b)) (a0 : -9223372036854775808 ≤ a) (a1 : a ≤ 9223372036854775807) (b0 : -9223372036854775808 ≤ b) (b1 : b ≤ 9223372036854775807) (hz : szQ a b hi lo) (hs : (decide (a < 0) == decide (b < 0)) = false) (hh : (hi == 0) = false) : Calls Tryd.prog 62 #[.pointer (some ⟨p, 0, none⟩), .pointer (some ⟨q, 0, none⟩)] w fun e w' => e = .returned (.tuple #[.agg #[.int .i64 0, .int .i64 0, .string E, .bool false], .string sRange]) ∧ Nw w w' := by
  have lp := World.block_lt_of_cell? w _ c1
  have lq := World.block_lt_of_cell? w _ c2
  simp only at lp lq
  have np : ¬ w.heap.size = p := by omega
  have nq : ¬ w.heap.size = q := by omega
  go_enter Tryd.func62, Tryd.ntmps62
  go_wp2_with fail
  go_quiet ((first | (go_at_call 64; exact Calls.quiet_of_same (size_any _ _ (by assumption) (by assumption))) | (go_at_call 63; exact Calls.quiet_of_same (hz _))))
  go_wp2_with fail
  refine (number_f _ _).mono ?_
  rintro e w1 ⟨rfl, hb⟩
  obtain ⟨q1, q2⟩ := hb.at_ w.heap.size (by simp)
  have hz := hb.size
  (try simp at hz)
  have G := Lib.hid hb
  clear hb
  go_wp2_with fail
  exact bodyPost_ret (v := .tuple #[.agg #[.int .i64 0, .int .i64 0, .string E, .bool false], .string sRange]) (by simp [results, Tryd.results62, go_sem, q1]) rfl ⟨rfl, by (first | refine Nw.setCell ?_ (by simp) _ | skip); (repeat refine Nw.setCell ?_ (by simp) _); exact Nw.to (Nw.drewN ((Nw.refl w).alloc _) _) G.out⟩
set_option maxRecDepth 100000 in
set_option maxHeartbeats 1000000 in
theorem mul_3 (p q : Nat) (a b hi lo : Int) (w : World) (c1 : w.cell? ⟨p, 1, none⟩ = some (.int .i64 a)) (c2 : w.cell? ⟨q, 1, none⟩ = some (.int .i64 b)) (a0 : -9223372036854775808 ≤ a) (a1 : a ≤ 9223372036854775807) (b0 : -9223372036854775808 ≤ b) (b1 : b ≤ 9223372036854775807) (hz : szQ a b hi lo) (hs : (decide (a < 0) == decide (b < 0)) = true) (hh : (hi == 0) = true) (hl : decide (lo ≤ 9223372036854775807) = true) : Calls Tryd.prog 62 #[.pointer (some ⟨p, 0, none⟩), .pointer (some ⟨q, 0, none⟩)] w fun e w' => e = .returned (.tuple #[.agg #[.int .i64 1, .int .i64 (wrap64 (a * b)), .string E, .bool false], .string sDone]) ∧ Nw w w' := by
  have lp := World.block_lt_of_cell? w _ c1
  have lq := World.block_lt_of_cell? w _ c2
  simp only at lp lq
  have np : ¬ w.heap.size = p := by omega
  have nq : ¬ w.heap.size = q := by omega
  go_enter Tryd.func62, Tryd.ntmps62
  go_wp2_with fail
  go_quiet ((first | (go_at_call 64; exact Calls.quiet_of_same (size_any _ _ (by assumption) (by assumption))) | (go_at_call 63; exact Calls.quiet_of_same (hz _))))
  go_wp2_with fail
  refine (number_t _ _).mono ?_
  rintro e w1 ⟨rfl, hb⟩
  obtain ⟨q1, q2⟩ := hb.at_ w.heap.size (by simp)
  have hz := hb.size
  (try simp at hz)
  have G := Lib.hid hb
  clear hb
  go_wp2_with fail
  exact bodyPost_ret (v := .tuple #[.agg #[.int .i64 1, .int .i64 (wrap64 (a * b)), .string E, .bool false], .string sDone]) (by simp [results, Tryd.results62, go_sem, q1]) rfl ⟨rfl, by (first | refine Nw.setCell ?_ (by simp) _ | skip); (repeat refine Nw.setCell ?_ (by simp) _); exact Nw.to (Nw.drewN ((Nw.refl w).alloc _) _) G.out⟩
set_option maxRecDepth 100000 in
set_option maxHeartbeats 1000000 in
theorem mul_4 (p q : Nat) (a b hi lo : Int) (w : World) (c1 : w.cell? ⟨p, 1, none⟩ = some (.int .i64 a)) (c2 : w.cell? ⟨q, 1, none⟩ = some (.int .i64 b)) (a0 : -9223372036854775808 ≤ a) (a1 : a ≤ 9223372036854775807) (b0 : -9223372036854775808 ≤ b) (b1 : b ≤ 9223372036854775807) (hz : szQ a b hi lo) (hs : (decide (a < 0) == decide (b < 0)) = true) (hh : (hi == 0) = true) (hl : decide (lo ≤ 9223372036854775807) = false) : Calls Tryd.prog 62 #[.pointer (some ⟨p, 0, none⟩), .pointer (some ⟨q, 0, none⟩)] w fun e w' => e = .returned (.tuple #[.agg #[.int .i64 0, .int .i64 0, .string E, .bool false], .string sRange]) ∧ Nw w w' := by
  have lp := World.block_lt_of_cell? w _ c1
  have lq := World.block_lt_of_cell? w _ c2
  simp only at lp lq
  have np : ¬ w.heap.size = p := by omega
  have nq : ¬ w.heap.size = q := by omega
  go_enter Tryd.func62, Tryd.ntmps62
  go_wp2_with fail
  go_quiet ((first | (go_at_call 64; exact Calls.quiet_of_same (size_any _ _ (by assumption) (by assumption))) | (go_at_call 63; exact Calls.quiet_of_same (hz _))))
  go_wp2_with fail
  refine (number_f _ _).mono ?_
  rintro e w1 ⟨rfl, hb⟩
  obtain ⟨q1, q2⟩ := hb.at_ w.heap.size (by simp)
  have hz := hb.size
  (try simp at hz)
  have G := Lib.hid hb
  clear hb
  go_wp2_with fail
  exact bodyPost_ret (v := .tuple #[.agg #[.int .i64 0, .int .i64 0, .string E, .bool false], .string sRange]) (by simp [results, Tryd.results62, go_sem, q1]) rfl ⟨rfl, by (first | refine Nw.setCell ?_ (by simp) _ | skip); (repeat refine Nw.setCell ?_ (by simp) _); exact Nw.to (Nw.drewN ((Nw.refl w).alloc _) _) G.out⟩
set_option maxRecDepth 100000 in
set_option maxHeartbeats 1000000 in
theorem mul_5 (p q : Nat) (a b hi lo : Int) (w : World) (c1 : w.cell? ⟨p, 1, none⟩ = some (.int .i64 a)) (c2 : w.cell? ⟨q, 1, none⟩ = some (.int .i64 b)) (a0 : -9223372036854775808 ≤ a) (a1 : a ≤ 9223372036854775807) (b0 : -9223372036854775808 ≤ b) (b1 : b ≤ 9223372036854775807) (hz : szQ a b hi lo) (hs : (decide (a < 0) == decide (b < 0)) = true) (hh : (hi == 0) = false) : Calls Tryd.prog 62 #[.pointer (some ⟨p, 0, none⟩), .pointer (some ⟨q, 0, none⟩)] w fun e w' => e = .returned (.tuple #[.agg #[.int .i64 0, .int .i64 0, .string E, .bool false], .string sRange]) ∧ Nw w w' := by
  have lp := World.block_lt_of_cell? w _ c1
  have lq := World.block_lt_of_cell? w _ c2
  simp only at lp lq
  have np : ¬ w.heap.size = p := by omega
  have nq : ¬ w.heap.size = q := by omega
  go_enter Tryd.func62, Tryd.ntmps62
  go_wp2_with fail
  go_quiet ((first | (go_at_call 64; exact Calls.quiet_of_same (size_any _ _ (by assumption) (by assumption))) | (go_at_call 63; exact Calls.quiet_of_same (hz _))))
  go_wp2_with fail
  refine (number_f _ _).mono ?_
  rintro e w1 ⟨rfl, hb⟩
  obtain ⟨q1, q2⟩ := hb.at_ w.heap.size (by simp)
  have hz := hb.size
  (try simp at hz)
  have G := Lib.hid hb
  clear hb
  go_wp2_with fail
  exact bodyPost_ret (v := .tuple #[.agg #[.int .i64 0, .int .i64 0, .string E, .bool false], .string sRange]) (by simp [results, Tryd.results62, go_sem, q1]) rfl ⟨rfl, by (first | refine Nw.setCell ?_ (by simp) _ | skip); (repeat refine Nw.setCell ?_ (by simp) _); exact Nw.to (Nw.drewN ((Nw.refl w).alloc _) _) G.out⟩
end Vl
end Go.Proofs.YtlmkhpgnkpgbdaaDoor
