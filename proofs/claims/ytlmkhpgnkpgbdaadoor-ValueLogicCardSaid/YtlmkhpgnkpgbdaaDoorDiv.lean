/- SQL's values: quotients. -/
import Derived.Test.YtlmkhpgnkpgbdaaDoorC
import Derived.Test.YtlmkhpgnkpgbdaaDoorWLast
namespace Go.Proofs.YtlmkhpgnkpgbdaaDoor
open Go.RowKit
set_option linter.unusedVariables false
set_option linter.unusedSimpArgs false
namespace Vl
abbrev sZero : ByteArray := ⟨#[50, 50, 48, 49, 50]⟩
theorem div_0 (p q : Nat) (w : World) (k1 : w.cell? ⟨p, 1, none⟩ = some (.int .i64 0)) : Calls Tryd.prog 61 #[.pointer (some ⟨p, 0, none⟩), .pointer (some ⟨q, 0, none⟩)] w fun e w' => e = .returned (.tuple #[.agg #[.int .i64 0, .int .i64 0, .string E, .bool false], .string sZero]) ∧ Nw w w' := by
  have lp := World.block_lt_of_cell? w _ k1
  simp only at lp
  go_enter Tryd.func61, Tryd.ntmps61
  go_wp2
  exact bodyPost_ret (v := .tuple #[.agg #[.int .i64 0, .int .i64 0, .string E, .bool false], .string sZero]) (by simp [results, Tryd.results61, go_sem]) rfl ⟨rfl, (by repeat (first | exact Nw.refl _ | assumption | apply Nw.alloc | apply Nw.drew | refine Nw.setCell ?_ (by simp <;> omega) _))⟩
set_option maxHeartbeats 1000000 in
set_option maxRecDepth 100000 in
theorem div_1 (p q : Nat) (a b : Int) (w : World) (k1 : w.cell? ⟨p, 1, none⟩ = some (.int .i64 b)) (k2 : w.cell? ⟨q, 1, none⟩ = some (.int .i64 a)) (h0 : (b == 0) = false) (h00 : ¬ b = 0) (h1 : (a != -9223372036854775808) = true) : Calls Tryd.prog 61 #[.pointer (some ⟨p, 0, none⟩), .pointer (some ⟨q, 0, none⟩)] w fun e w' => e = .returned (.tuple #[.agg #[.int .i64 1, .int .i64 (wrap64 (a.tdiv b)), .string E, .bool false], .string sDone]) ∧ Nw w w' := by
  have lp := World.block_lt_of_cell? w _ k1
  have lq := World.block_lt_of_cell? w _ k2
  simp only at lp lq
  have np : ¬ p = w.heap.size := by omega
  have nq : ¬ q = w.heap.size := by omega
  have np' : ¬ w.heap.size = p := by omega
  have nq' : ¬ w.heap.size = q := by omega
  go_enter Tryd.func61, Tryd.ntmps61
  go_wp2_with fail
  refine Go.Proofs.YtlmkhpgnkpgbdaaDoorW.PrintLast.start_ (n := 18) (S := fun v => v.cell? ⟨p, 1, none⟩ = some (.int .i64 b) ∧ v.cell? ⟨q, 1, none⟩ = some (.int .i64 a)) (ds := []) #[false, false, false, false, false, false, false, false, false, false, false, false, false, false, false, false, false, false] (by kernel_rfl) rfl rfl ⟨by go_simp, by go_simp⟩ (fun hHeld => ?_)
  refine Go.Proofs.YtlmkhpgnkpgbdaaDoorW.PrintLast.pure_ (i := 0) (N := some 8) (v := ?_) (a' := ?_) #[true, false, false, false, false, false, false, false, false, false, false, false, false, false, false, false, false, false] rfl rfl (by kernel_rfl) (fun _ _ _ h => h) (Or.inl ⟨by rfl, ?_⟩) ?_ ?_
  rotate_left
  · intro w'
    go_simp
    with_reducible rfl
  rotate_left
  · simp only [Act.put, List.setIfInBounds_toArray, List.set_cons_zero, List.set_cons_succ, Go.Proofs.YtlmkhpgnkpgbdaaDoorW.PrintLast.i64_w, Go.Proofs.YtlmkhpgnkpgbdaaDoorW.PrintLast.i32_w]
    rfl
  refine Go.Proofs.YtlmkhpgnkpgbdaaDoorW.PrintLast.take_ (i := 1) (N := some 9) (v := ?_) (a' := ?_) #[true, true, false, false, false, false, false, false, false, false, false, false, false, false, false, false, false, false] rfl rfl (by kernel_rfl) (fun _ _ _ h => h) (Or.inl ⟨by rfl, ?_⟩) hHeld ?_ ?_
  rotate_left
  · rintro w' ⟨s0, s1⟩
    go_simp
    with_reducible rfl
  rotate_left
  · simp only [Act.put, List.setIfInBounds_toArray, List.set_cons_zero, List.set_cons_succ, Go.Proofs.YtlmkhpgnkpgbdaaDoorW.PrintLast.i64_w, Go.Proofs.YtlmkhpgnkpgbdaaDoorW.PrintLast.i32_w]
    rfl
  refine Go.Proofs.YtlmkhpgnkpgbdaaDoorW.PrintLast.pure_ (i := 2) (N := some 10) (v := ?_) (a' := ?_) #[true, true, true, false, false, false, false, false, false, false, false, false, false, false, false, false, false, false] rfl rfl (by kernel_rfl) (fun _ _ _ h => h) (Or.inl ⟨by rfl, ?_⟩) ?_ ?_
  rotate_left
  · intro w'
    go_simp
    with_reducible rfl
  rotate_left
  · simp only [Act.put, List.setIfInBounds_toArray, List.set_cons_zero, List.set_cons_succ, Go.Proofs.YtlmkhpgnkpgbdaaDoorW.PrintLast.i64_w, Go.Proofs.YtlmkhpgnkpgbdaaDoorW.PrintLast.i32_w]
    rfl
  refine Go.Proofs.YtlmkhpgnkpgbdaaDoorW.PrintLast.take_ (i := 3) (N := some 11) (v := ?_) (a' := ?_) #[true, true, true, true, false, false, false, false, false, false, false, false, false, false, false, false, false, false] rfl rfl (by kernel_rfl) (fun _ _ _ h => h) (Or.inl ⟨by rfl, ?_⟩) hHeld ?_ ?_
  rotate_left
  · rintro w' ⟨s0, s1⟩
    go_simp
    with_reducible rfl
  rotate_left
  · simp only [Act.put, List.setIfInBounds_toArray, List.set_cons_zero, List.set_cons_succ, Go.Proofs.YtlmkhpgnkpgbdaaDoorW.PrintLast.i64_w, Go.Proofs.YtlmkhpgnkpgbdaaDoorW.PrintLast.i32_w]
    rfl
  refine Go.Proofs.YtlmkhpgnkpgbdaaDoorW.PrintLast.pure_ (i := 4) (N := some 12) (v := ?_) (a' := ?_) #[true, true, true, true, true, false, false, false, false, false, false, false, false, false, false, false, false, false] rfl rfl (by kernel_rfl) (fun _ _ _ h => h) (Or.inl ⟨by rfl, ?_⟩) ?_ ?_
  rotate_left
  · intro w'
    go_simp
    with_reducible rfl
  rotate_left
  · simp only [Act.put, List.setIfInBounds_toArray, List.set_cons_zero, List.set_cons_succ, Go.Proofs.YtlmkhpgnkpgbdaaDoorW.PrintLast.i64_w, Go.Proofs.YtlmkhpgnkpgbdaaDoorW.PrintLast.i32_w]
    rfl
  refine Go.Proofs.YtlmkhpgnkpgbdaaDoorW.PrintLast.pure_ (i := 5) (N := some 13) (v := ?_) (a' := ?_) #[true, true, true, true, true, true, false, false, false, false, false, false, false, false, false, false, false, false] rfl rfl (by kernel_rfl) (fun _ _ _ h => h) (Or.inl ⟨by rfl, ?_⟩) ?_ ?_
  rotate_left
  · intro w'
    go_simp
    with_reducible rfl
  rotate_left
  · simp only [Act.put, List.setIfInBounds_toArray, List.set_cons_zero, List.set_cons_succ, Go.Proofs.YtlmkhpgnkpgbdaaDoorW.PrintLast.i64_w, Go.Proofs.YtlmkhpgnkpgbdaaDoorW.PrintLast.i32_w]
    rfl
  refine Go.Proofs.YtlmkhpgnkpgbdaaDoorW.PrintLast.take_ (i := 6) (N := some 14) (v := ?_) (a' := ?_) #[true, true, true, true, true, true, true, false, false, false, false, false, false, false, false, false, false, false] rfl rfl (by kernel_rfl) (fun _ _ _ h => h) (Or.inl ⟨by rfl, ?_⟩) hHeld ?_ ?_
  rotate_left
  · rintro w' ⟨s0, s1⟩
    go_simp
    with_reducible rfl
  rotate_left
  · simp only [Act.put, List.setIfInBounds_toArray, List.set_cons_zero, List.set_cons_succ, Go.Proofs.YtlmkhpgnkpgbdaaDoorW.PrintLast.i64_w, Go.Proofs.YtlmkhpgnkpgbdaaDoorW.PrintLast.i32_w]
    rfl
  refine Go.Proofs.YtlmkhpgnkpgbdaaDoorW.PrintLast.pure_ (i := 7) (N := some 15) (v := ?_) (a' := ?_) #[true, true, true, true, true, true, true, true, false, false, false, false, false, false, false, false, false, false] rfl rfl (by kernel_rfl) (fun _ _ _ h => h) (Or.inl ⟨by rfl, ?_⟩) ?_ ?_
  rotate_left
  · intro w'
    go_simp
    with_reducible rfl
  rotate_left
  · simp only [Act.put, List.setIfInBounds_toArray, List.set_cons_zero, List.set_cons_succ, Go.Proofs.YtlmkhpgnkpgbdaaDoorW.PrintLast.i64_w, Go.Proofs.YtlmkhpgnkpgbdaaDoorW.PrintLast.i32_w]
    rfl
  refine Go.Proofs.YtlmkhpgnkpgbdaaDoorW.PrintLast.pure_ (i := 8) (N := some 16) (v := ?_) (a' := ?_) #[true, true, true, true, true, true, true, true, true, false, false, false, false, false, false, false, false, false] rfl rfl (by kernel_rfl) (fun _ _ _ h => h) (Or.inl ⟨by rfl, ?_⟩) ?_ ?_
  rotate_left
  · intro w'
    go_simp
    with_reducible rfl
  rotate_left
  · simp only [Act.put, List.setIfInBounds_toArray, List.set_cons_zero, List.set_cons_succ, Go.Proofs.YtlmkhpgnkpgbdaaDoorW.PrintLast.i64_w, Go.Proofs.YtlmkhpgnkpgbdaaDoorW.PrintLast.i32_w]
    rfl
  refine Go.Proofs.YtlmkhpgnkpgbdaaDoorW.PrintLast.pure_ (i := 9) (N := some 17) (v := _) (a' := ?_) #[true, true, true, true, true, true, true, true, true, true, false, false, false, false, false, false, false, false] rfl rfl (by kernel_rfl) (fun _ _ _ h => h) (Or.inr ⟨by rfl, rfl⟩) ?_ ?_
  rotate_left
  · simp only [Act.put, List.setIfInBounds_toArray, List.set_cons_zero, List.set_cons_succ, Go.Proofs.YtlmkhpgnkpgbdaaDoorW.PrintLast.i64_w, Go.Proofs.YtlmkhpgnkpgbdaaDoorW.PrintLast.i32_w]
    rfl
  refine Go.Proofs.YtlmkhpgnkpgbdaaDoorW.PrintLast.pure_ (i := 10) (N := some 18) (v := _) (a' := ?_) #[true, true, true, true, true, true, true, true, true, true, true, false, false, false, false, false, false, false] rfl rfl (by kernel_rfl) (fun _ _ _ h => h) (Or.inr ⟨by rfl, rfl⟩) ?_ ?_
  rotate_left
  · simp only [Act.put, List.setIfInBounds_toArray, List.set_cons_zero, List.set_cons_succ, Go.Proofs.YtlmkhpgnkpgbdaaDoorW.PrintLast.i64_w, Go.Proofs.YtlmkhpgnkpgbdaaDoorW.PrintLast.i32_w]
    rfl
  refine Go.Proofs.YtlmkhpgnkpgbdaaDoorW.PrintLast.pure_ (i := 11) (N := some 19) (v := _) (a' := ?_) #[true, true, true, true, true, true, true, true, true, true, true, true, false, false, false, false, false, false] rfl rfl (by kernel_rfl) (fun _ _ _ h => h) (Or.inr ⟨by rfl, rfl⟩) ?_ ?_
  rotate_left
  · simp only [Act.put, List.setIfInBounds_toArray, List.set_cons_zero, List.set_cons_succ, Go.Proofs.YtlmkhpgnkpgbdaaDoorW.PrintLast.i64_w, Go.Proofs.YtlmkhpgnkpgbdaaDoorW.PrintLast.i32_w]
    rfl
  refine Go.Proofs.YtlmkhpgnkpgbdaaDoorW.PrintLast.pure_ (i := 12) (N := some 20) (v := ?_) (a' := ?_) #[true, true, true, true, true, true, true, true, true, true, true, true, true, false, false, false, false, false] rfl rfl (by kernel_rfl) (fun _ _ _ h => h) (Or.inl ⟨by rfl, ?_⟩) ?_ ?_
  rotate_left
  · intro w'
    go_simp
    with_reducible rfl
  rotate_left
  · simp only [Act.put, List.setIfInBounds_toArray, List.set_cons_zero, List.set_cons_succ, Go.Proofs.YtlmkhpgnkpgbdaaDoorW.PrintLast.i64_w, Go.Proofs.YtlmkhpgnkpgbdaaDoorW.PrintLast.i32_w]
    rfl
  refine Go.Proofs.YtlmkhpgnkpgbdaaDoorW.PrintLast.one_ (i := 13) (N := some 21) #[true, true, true, true, true, true, true, true, true, true, true, true, true, true, false, false, false, false] rfl rfl (by kernel_rfl) (by decide) (fun K hK => ?_)
  refine Go.Proofs.YtlmkhpgnkpgbdaaDoorW.PrintLast.goes_ Tryd.func59 (by kernel_rfl) rfl #[.int .i64 (wrap64 (a.tdiv b)), .bool true] (by rfl) rfl rfl (by (try simp only [List.map_toArray, List.map_cons, List.map_nil]); first | done | rfl) ?_
  refine (number_t _ _).mono ?_
  rintro e w1 ⟨rfl, hb⟩
  refine ⟨_, rfl, ?_⟩
  obtain ⟨a1, b1⟩ := hb.at_ p (by simp <;> omega)
  obtain ⟨a2, b2⟩ := hb.at_ q (by simp <;> omega)
  obtain ⟨c1, d1⟩ := hb.at_ w.heap.size (by simp)
  have z1 : w.heap.size < w1.heap.size := by have hz := hb.size; simp at hz; omega
  have G1 := Lib.hid (Nw.to (((Nw.refl w).alloc _).drew) hb)
  clear hb
  refine hK.out _ _ ⟨(a1 1).trans hHeld.1, (a2 1).trans hHeld.2⟩ (fun hHeld => ?_)
  clear hK K
  refine Go.Proofs.YtlmkhpgnkpgbdaaDoorW.PrintLast.norm_ (a' := ?_) ?_ ?_
  rotate_left
  · show Act.put _ (some 21) _ = _
    simp only [Act.put, List.setIfInBounds_toArray, List.set_cons_zero, List.set_cons_succ, Go.Proofs.YtlmkhpgnkpgbdaaDoorW.PrintLast.i64_w, Go.Proofs.YtlmkhpgnkpgbdaaDoorW.PrintLast.i32_w]
    rfl
  refine Go.Proofs.YtlmkhpgnkpgbdaaDoorW.PrintLast.pure_ (i := 14) (N := some 22) (v := ?_) (a' := ?_) #[true, true, true, true, true, true, true, true, true, true, true, true, true, true, true, false, false, false] rfl rfl (by kernel_rfl) (fun _ _ _ h => h) (Or.inl ⟨by rfl, ?_⟩) ?_ ?_
  rotate_left
  · intro w'
    go_simp
    with_reducible rfl
  rotate_left
  · simp only [Act.put, List.setIfInBounds_toArray, List.set_cons_zero, List.set_cons_succ, Go.Proofs.YtlmkhpgnkpgbdaaDoorW.PrintLast.i64_w, Go.Proofs.YtlmkhpgnkpgbdaaDoorW.PrintLast.i32_w]
    rfl
  refine Go.Proofs.YtlmkhpgnkpgbdaaDoorW.PrintLast.pure_ (i := 15) (N := some 23) (v := ?_) (a' := ?_) #[true, true, true, true, true, true, true, true, true, true, true, true, true, true, true, true, false, false] rfl rfl (by kernel_rfl) (fun _ _ _ h => h) (Or.inl ⟨by rfl, ?_⟩) ?_ ?_
  rotate_left
  · intro w'
    go_simp
    with_reducible rfl
  rotate_left
  · simp only [Act.put, List.setIfInBounds_toArray, List.set_cons_zero, List.set_cons_succ, Go.Proofs.YtlmkhpgnkpgbdaaDoorW.PrintLast.i64_w, Go.Proofs.YtlmkhpgnkpgbdaaDoorW.PrintLast.i32_w]
    rfl
  refine Go.Proofs.YtlmkhpgnkpgbdaaDoorW.PrintLast.one_ (i := 16) (N := none) #[true, true, true, true, true, true, true, true, true, true, true, true, true, true, true, true, true, false] rfl rfl (by kernel_rfl) (by decide) (fun K hK => ?_)
  refine Go.Proofs.YtlmkhpgnkpgbdaaDoorW.PrintLast.skip_ (w1 := ?_) (by rfl) rfl ?_ ?_
  rotate_left
  · go_simp
    rfl
  obtain ⟨t0, t1⟩ := hHeld
  refine hK.out _ _ ⟨by go_simp, by go_simp⟩ (fun hHeld => ?_)
  clear hHeld
  clear hK K
  refine Go.Proofs.YtlmkhpgnkpgbdaaDoorW.PrintLast.pure_ (i := 17) (N := some 3) (v := ?_) (a' := ?_) #[true, true, true, true, true, true, true, true, true, true, true, true, true, true, true, true, true, true] rfl rfl (by kernel_rfl) (fun _ _ _ h => h) (Or.inl ⟨by rfl, ?_⟩) ?_ ?_
  rotate_left
  · intro w'
    go_simp
    with_reducible rfl
  rotate_left
  · simp only [Act.put, List.setIfInBounds_toArray, List.set_cons_zero, List.set_cons_succ, Go.Proofs.YtlmkhpgnkpgbdaaDoorW.PrintLast.i64_w, Go.Proofs.YtlmkhpgnkpgbdaaDoorW.PrintLast.i32_w]
    rfl
  refine Go.Proofs.YtlmkhpgnkpgbdaaDoorW.PrintLast.done_ (by kernel_rfl) ?_
  go_wp2_with fail
  exact bodyPost_ret (v := .tuple #[.agg #[.int .i64 1, .int .i64 (wrap64 (a.tdiv b)), .string E, .bool false], .string sDone]) (by simp [results, Tryd.results61, go_sem, c1]) rfl ⟨rfl, (by repeat (first | exact Nw.refl _ | exact G1.out | apply Nw.alloc | apply Nw.drew | refine Nw.setCell ?_ (by simp <;> omega) _))⟩
set_option maxHeartbeats 1000000 in
set_option maxRecDepth 100000 in
theorem div_2 (p q : Nat) (a b : Int) (w : World) (k1 : w.cell? ⟨p, 1, none⟩ = some (.int .i64 b)) (k2 : w.cell? ⟨q, 1, none⟩ = some (.int .i64 a)) (h0 : (b == 0) = false) (h00 : ¬ b = 0) (h1 : (a != -9223372036854775808) = false) (h2 : (b != -1) = true) : Calls Tryd.prog 61 #[.pointer (some ⟨p, 0, none⟩), .pointer (some ⟨q, 0, none⟩)] w fun e w' => e = .returned (.tuple #[.agg #[.int .i64 1, .int .i64 (wrap64 (a.tdiv b)), .string E, .bool false], .string sDone]) ∧ Nw w w' := by
  have lp := World.block_lt_of_cell? w _ k1
  have lq := World.block_lt_of_cell? w _ k2
  simp only at lp lq
  have np : ¬ p = w.heap.size := by omega
  have nq : ¬ q = w.heap.size := by omega
  have np' : ¬ w.heap.size = p := by omega
  have nq' : ¬ w.heap.size = q := by omega
  go_enter Tryd.func61, Tryd.ntmps61
  go_wp2_with fail
  refine Go.Proofs.YtlmkhpgnkpgbdaaDoorW.PrintLast.start_ (n := 18) (S := fun v => v.cell? ⟨p, 1, none⟩ = some (.int .i64 b) ∧ v.cell? ⟨q, 1, none⟩ = some (.int .i64 a)) (ds := []) #[false, false, false, false, false, false, false, false, false, false, false, false, false, false, false, false, false, false] (by kernel_rfl) rfl rfl ⟨by go_simp, by go_simp⟩ (fun hHeld => ?_)
  refine Go.Proofs.YtlmkhpgnkpgbdaaDoorW.PrintLast.pure_ (i := 0) (N := some 8) (v := ?_) (a' := ?_) #[true, false, false, false, false, false, false, false, false, false, false, false, false, false, false, false, false, false] rfl rfl (by kernel_rfl) (fun _ _ _ h => h) (Or.inl ⟨by rfl, ?_⟩) ?_ ?_
  rotate_left
  · intro w'
    go_simp
    with_reducible rfl
  rotate_left
  · simp only [Act.put, List.setIfInBounds_toArray, List.set_cons_zero, List.set_cons_succ, Go.Proofs.YtlmkhpgnkpgbdaaDoorW.PrintLast.i64_w, Go.Proofs.YtlmkhpgnkpgbdaaDoorW.PrintLast.i32_w]
    rfl
  refine Go.Proofs.YtlmkhpgnkpgbdaaDoorW.PrintLast.take_ (i := 1) (N := some 9) (v := ?_) (a' := ?_) #[true, true, false, false, false, false, false, false, false, false, false, false, false, false, false, false, false, false] rfl rfl (by kernel_rfl) (fun _ _ _ h => h) (Or.inl ⟨by rfl, ?_⟩) hHeld ?_ ?_
  rotate_left
  · rintro w' ⟨s0, s1⟩
    go_simp
    with_reducible rfl
  rotate_left
  · simp only [Act.put, List.setIfInBounds_toArray, List.set_cons_zero, List.set_cons_succ, Go.Proofs.YtlmkhpgnkpgbdaaDoorW.PrintLast.i64_w, Go.Proofs.YtlmkhpgnkpgbdaaDoorW.PrintLast.i32_w]
    rfl
  refine Go.Proofs.YtlmkhpgnkpgbdaaDoorW.PrintLast.pure_ (i := 2) (N := some 10) (v := ?_) (a' := ?_) #[true, true, true, false, false, false, false, false, false, false, false, false, false, false, false, false, false, false] rfl rfl (by kernel_rfl) (fun _ _ _ h => h) (Or.inl ⟨by rfl, ?_⟩) ?_ ?_
  rotate_left
  · intro w'
    go_simp
    with_reducible rfl
  rotate_left
  · simp only [Act.put, List.setIfInBounds_toArray, List.set_cons_zero, List.set_cons_succ, Go.Proofs.YtlmkhpgnkpgbdaaDoorW.PrintLast.i64_w, Go.Proofs.YtlmkhpgnkpgbdaaDoorW.PrintLast.i32_w]
    rfl
  refine Go.Proofs.YtlmkhpgnkpgbdaaDoorW.PrintLast.take_ (i := 3) (N := some 11) (v := ?_) (a' := ?_) #[true, true, true, true, false, false, false, false, false, false, false, false, false, false, false, false, false, false] rfl rfl (by kernel_rfl) (fun _ _ _ h => h) (Or.inl ⟨by rfl, ?_⟩) hHeld ?_ ?_
  rotate_left
  · rintro w' ⟨s0, s1⟩
    go_simp
    with_reducible rfl
  rotate_left
  · simp only [Act.put, List.setIfInBounds_toArray, List.set_cons_zero, List.set_cons_succ, Go.Proofs.YtlmkhpgnkpgbdaaDoorW.PrintLast.i64_w, Go.Proofs.YtlmkhpgnkpgbdaaDoorW.PrintLast.i32_w]
    rfl
  refine Go.Proofs.YtlmkhpgnkpgbdaaDoorW.PrintLast.pure_ (i := 4) (N := some 12) (v := ?_) (a' := ?_) #[true, true, true, true, true, false, false, false, false, false, false, false, false, false, false, false, false, false] rfl rfl (by kernel_rfl) (fun _ _ _ h => h) (Or.inl ⟨by rfl, ?_⟩) ?_ ?_
  rotate_left
  · intro w'
    go_simp
    with_reducible rfl
  rotate_left
  · simp only [Act.put, List.setIfInBounds_toArray, List.set_cons_zero, List.set_cons_succ, Go.Proofs.YtlmkhpgnkpgbdaaDoorW.PrintLast.i64_w, Go.Proofs.YtlmkhpgnkpgbdaaDoorW.PrintLast.i32_w]
    rfl
  refine Go.Proofs.YtlmkhpgnkpgbdaaDoorW.PrintLast.pure_ (i := 5) (N := some 13) (v := ?_) (a' := ?_) #[true, true, true, true, true, true, false, false, false, false, false, false, false, false, false, false, false, false] rfl rfl (by kernel_rfl) (fun _ _ _ h => h) (Or.inl ⟨by rfl, ?_⟩) ?_ ?_
  rotate_left
  · intro w'
    go_simp
    with_reducible rfl
  rotate_left
  · simp only [Act.put, List.setIfInBounds_toArray, List.set_cons_zero, List.set_cons_succ, Go.Proofs.YtlmkhpgnkpgbdaaDoorW.PrintLast.i64_w, Go.Proofs.YtlmkhpgnkpgbdaaDoorW.PrintLast.i32_w]
    rfl
  refine Go.Proofs.YtlmkhpgnkpgbdaaDoorW.PrintLast.take_ (i := 6) (N := some 14) (v := ?_) (a' := ?_) #[true, true, true, true, true, true, true, false, false, false, false, false, false, false, false, false, false, false] rfl rfl (by kernel_rfl) (fun _ _ _ h => h) (Or.inl ⟨by rfl, ?_⟩) hHeld ?_ ?_
  rotate_left
  · rintro w' ⟨s0, s1⟩
    go_simp
    with_reducible rfl
  rotate_left
  · simp only [Act.put, List.setIfInBounds_toArray, List.set_cons_zero, List.set_cons_succ, Go.Proofs.YtlmkhpgnkpgbdaaDoorW.PrintLast.i64_w, Go.Proofs.YtlmkhpgnkpgbdaaDoorW.PrintLast.i32_w]
    rfl
  refine Go.Proofs.YtlmkhpgnkpgbdaaDoorW.PrintLast.pure_ (i := 7) (N := some 15) (v := ?_) (a' := ?_) #[true, true, true, true, true, true, true, true, false, false, false, false, false, false, false, false, false, false] rfl rfl (by kernel_rfl) (fun _ _ _ h => h) (Or.inl ⟨by rfl, ?_⟩) ?_ ?_
  rotate_left
  · intro w'
    go_simp
    with_reducible rfl
  rotate_left
  · simp only [Act.put, List.setIfInBounds_toArray, List.set_cons_zero, List.set_cons_succ, Go.Proofs.YtlmkhpgnkpgbdaaDoorW.PrintLast.i64_w, Go.Proofs.YtlmkhpgnkpgbdaaDoorW.PrintLast.i32_w]
    rfl
  refine Go.Proofs.YtlmkhpgnkpgbdaaDoorW.PrintLast.pure_ (i := 8) (N := some 16) (v := ?_) (a' := ?_) #[true, true, true, true, true, true, true, true, true, false, false, false, false, false, false, false, false, false] rfl rfl (by kernel_rfl) (fun _ _ _ h => h) (Or.inl ⟨by rfl, ?_⟩) ?_ ?_
  rotate_left
  · intro w'
    go_simp
    with_reducible rfl
  rotate_left
  · simp only [Act.put, List.setIfInBounds_toArray, List.set_cons_zero, List.set_cons_succ, Go.Proofs.YtlmkhpgnkpgbdaaDoorW.PrintLast.i64_w, Go.Proofs.YtlmkhpgnkpgbdaaDoorW.PrintLast.i32_w]
    rfl
  refine Go.Proofs.YtlmkhpgnkpgbdaaDoorW.PrintLast.pure_ (i := 9) (N := some 17) (v := ?_) (a' := ?_) #[true, true, true, true, true, true, true, true, true, true, false, false, false, false, false, false, false, false] rfl rfl (by kernel_rfl) (fun _ _ _ h => h) (Or.inl ⟨by rfl, ?_⟩) ?_ ?_
  rotate_left
  · intro w'
    go_simp
    with_reducible rfl
  rotate_left
  · simp only [Act.put, List.setIfInBounds_toArray, List.set_cons_zero, List.set_cons_succ, Go.Proofs.YtlmkhpgnkpgbdaaDoorW.PrintLast.i64_w, Go.Proofs.YtlmkhpgnkpgbdaaDoorW.PrintLast.i32_w]
    rfl
  refine Go.Proofs.YtlmkhpgnkpgbdaaDoorW.PrintLast.take_ (i := 10) (N := some 18) (v := ?_) (a' := ?_) #[true, true, true, true, true, true, true, true, true, true, true, false, false, false, false, false, false, false] rfl rfl (by kernel_rfl) (fun _ _ _ h => h) (Or.inl ⟨by rfl, ?_⟩) hHeld ?_ ?_
  rotate_left
  · rintro w' ⟨s0, s1⟩
    go_simp
    with_reducible rfl
  rotate_left
  · simp only [Act.put, List.setIfInBounds_toArray, List.set_cons_zero, List.set_cons_succ, Go.Proofs.YtlmkhpgnkpgbdaaDoorW.PrintLast.i64_w, Go.Proofs.YtlmkhpgnkpgbdaaDoorW.PrintLast.i32_w]
    rfl
  refine Go.Proofs.YtlmkhpgnkpgbdaaDoorW.PrintLast.pure_ (i := 11) (N := some 19) (v := ?_) (a' := ?_) #[true, true, true, true, true, true, true, true, true, true, true, true, false, false, false, false, false, false] rfl rfl (by kernel_rfl) (fun _ _ _ h => h) (Or.inl ⟨by rfl, ?_⟩) ?_ ?_
  rotate_left
  · intro w'
    go_simp
    with_reducible rfl
  rotate_left
  · simp only [Act.put, List.setIfInBounds_toArray, List.set_cons_zero, List.set_cons_succ, Go.Proofs.YtlmkhpgnkpgbdaaDoorW.PrintLast.i64_w, Go.Proofs.YtlmkhpgnkpgbdaaDoorW.PrintLast.i32_w]
    rfl
  refine Go.Proofs.YtlmkhpgnkpgbdaaDoorW.PrintLast.pure_ (i := 12) (N := some 20) (v := ?_) (a' := ?_) #[true, true, true, true, true, true, true, true, true, true, true, true, true, false, false, false, false, false] rfl rfl (by kernel_rfl) (fun _ _ _ h => h) (Or.inl ⟨by rfl, ?_⟩) ?_ ?_
  rotate_left
  · intro w'
    go_simp
    with_reducible rfl
  rotate_left
  · simp only [Act.put, List.setIfInBounds_toArray, List.set_cons_zero, List.set_cons_succ, Go.Proofs.YtlmkhpgnkpgbdaaDoorW.PrintLast.i64_w, Go.Proofs.YtlmkhpgnkpgbdaaDoorW.PrintLast.i32_w]
    rfl
  refine Go.Proofs.YtlmkhpgnkpgbdaaDoorW.PrintLast.one_ (i := 13) (N := some 21) #[true, true, true, true, true, true, true, true, true, true, true, true, true, true, false, false, false, false] rfl rfl (by kernel_rfl) (by decide) (fun K hK => ?_)
  refine Go.Proofs.YtlmkhpgnkpgbdaaDoorW.PrintLast.goes_ Tryd.func59 (by kernel_rfl) rfl #[.int .i64 (wrap64 (a.tdiv b)), .bool true] (by rfl) rfl rfl (by (try simp only [List.map_toArray, List.map_cons, List.map_nil]); first | done | rfl) ?_
  refine (number_t _ _).mono ?_
  rintro e w1 ⟨rfl, hb⟩
  refine ⟨_, rfl, ?_⟩
  obtain ⟨a1, b1⟩ := hb.at_ p (by simp <;> omega)
  obtain ⟨a2, b2⟩ := hb.at_ q (by simp <;> omega)
  obtain ⟨c1, d1⟩ := hb.at_ w.heap.size (by simp)
  have z1 : w.heap.size < w1.heap.size := by have hz := hb.size; simp at hz; omega
  have G1 := Lib.hid (Nw.to (((Nw.refl w).alloc _).drew) hb)
  clear hb
  refine hK.out _ _ ⟨(a1 1).trans hHeld.1, (a2 1).trans hHeld.2⟩ (fun hHeld => ?_)
  clear hK K
  refine Go.Proofs.YtlmkhpgnkpgbdaaDoorW.PrintLast.norm_ (a' := ?_) ?_ ?_
  rotate_left
  · show Act.put _ (some 21) _ = _
    simp only [Act.put, List.setIfInBounds_toArray, List.set_cons_zero, List.set_cons_succ, Go.Proofs.YtlmkhpgnkpgbdaaDoorW.PrintLast.i64_w, Go.Proofs.YtlmkhpgnkpgbdaaDoorW.PrintLast.i32_w]
    rfl
  refine Go.Proofs.YtlmkhpgnkpgbdaaDoorW.PrintLast.pure_ (i := 14) (N := some 22) (v := ?_) (a' := ?_) #[true, true, true, true, true, true, true, true, true, true, true, true, true, true, true, false, false, false] rfl rfl (by kernel_rfl) (fun _ _ _ h => h) (Or.inl ⟨by rfl, ?_⟩) ?_ ?_
  rotate_left
  · intro w'
    go_simp
    with_reducible rfl
  rotate_left
  · simp only [Act.put, List.setIfInBounds_toArray, List.set_cons_zero, List.set_cons_succ, Go.Proofs.YtlmkhpgnkpgbdaaDoorW.PrintLast.i64_w, Go.Proofs.YtlmkhpgnkpgbdaaDoorW.PrintLast.i32_w]
    rfl
  refine Go.Proofs.YtlmkhpgnkpgbdaaDoorW.PrintLast.pure_ (i := 15) (N := some 23) (v := ?_) (a' := ?_) #[true, true, true, true, true, true, true, true, true, true, true, true, true, true, true, true, false, false] rfl rfl (by kernel_rfl) (fun _ _ _ h => h) (Or.inl ⟨by rfl, ?_⟩) ?_ ?_
  rotate_left
  · intro w'
    go_simp
    with_reducible rfl
  rotate_left
  · simp only [Act.put, List.setIfInBounds_toArray, List.set_cons_zero, List.set_cons_succ, Go.Proofs.YtlmkhpgnkpgbdaaDoorW.PrintLast.i64_w, Go.Proofs.YtlmkhpgnkpgbdaaDoorW.PrintLast.i32_w]
    rfl
  refine Go.Proofs.YtlmkhpgnkpgbdaaDoorW.PrintLast.one_ (i := 16) (N := none) #[true, true, true, true, true, true, true, true, true, true, true, true, true, true, true, true, true, false] rfl rfl (by kernel_rfl) (by decide) (fun K hK => ?_)
  refine Go.Proofs.YtlmkhpgnkpgbdaaDoorW.PrintLast.skip_ (w1 := ?_) (by rfl) rfl ?_ ?_
  rotate_left
  · go_simp
    rfl
  obtain ⟨t0, t1⟩ := hHeld
  refine hK.out _ _ ⟨by go_simp, by go_simp⟩ (fun hHeld => ?_)
  clear hHeld
  clear hK K
  refine Go.Proofs.YtlmkhpgnkpgbdaaDoorW.PrintLast.pure_ (i := 17) (N := some 3) (v := ?_) (a' := ?_) #[true, true, true, true, true, true, true, true, true, true, true, true, true, true, true, true, true, true] rfl rfl (by kernel_rfl) (fun _ _ _ h => h) (Or.inl ⟨by rfl, ?_⟩) ?_ ?_
  rotate_left
  · intro w'
    go_simp
    with_reducible rfl
  rotate_left
  · simp only [Act.put, List.setIfInBounds_toArray, List.set_cons_zero, List.set_cons_succ, Go.Proofs.YtlmkhpgnkpgbdaaDoorW.PrintLast.i64_w, Go.Proofs.YtlmkhpgnkpgbdaaDoorW.PrintLast.i32_w]
    rfl
  refine Go.Proofs.YtlmkhpgnkpgbdaaDoorW.PrintLast.done_ (by kernel_rfl) ?_
  go_wp2_with fail
  exact bodyPost_ret (v := .tuple #[.agg #[.int .i64 1, .int .i64 (wrap64 (a.tdiv b)), .string E, .bool false], .string sDone]) (by simp [results, Tryd.results61, go_sem, c1]) rfl ⟨rfl, (by repeat (first | exact Nw.refl _ | exact G1.out | apply Nw.alloc | apply Nw.drew | refine Nw.setCell ?_ (by simp <;> omega) _))⟩
set_option maxHeartbeats 1000000 in
set_option maxRecDepth 100000 in
theorem div_3 (p q : Nat) (a b : Int) (w : World) (k1 : w.cell? ⟨p, 1, none⟩ = some (.int .i64 b)) (k2 : w.cell? ⟨q, 1, none⟩ = some (.int .i64 a)) (h0 : (b == 0) = false) (h00 : ¬ b = 0) (h1 : (a != -9223372036854775808) = false) (h2 : (b != -1) = false) : Calls Tryd.prog 61 #[.pointer (some ⟨p, 0, none⟩), .pointer (some ⟨q, 0, none⟩)] w fun e w' => e = .returned (.tuple #[.agg #[.int .i64 0, .int .i64 0, .string E, .bool false], .string sRange]) ∧ Nw w w' := by
  have lp := World.block_lt_of_cell? w _ k1
  have lq := World.block_lt_of_cell? w _ k2
  simp only at lp lq
  have np : ¬ p = w.heap.size := by omega
  have nq : ¬ q = w.heap.size := by omega
  have np' : ¬ w.heap.size = p := by omega
  have nq' : ¬ w.heap.size = q := by omega
  go_enter Tryd.func61, Tryd.ntmps61
  go_wp2_with fail
  refine Go.Proofs.YtlmkhpgnkpgbdaaDoorW.PrintLast.start_ (n := 18) (S := fun v => v.cell? ⟨p, 1, none⟩ = some (.int .i64 b) ∧ v.cell? ⟨q, 1, none⟩ = some (.int .i64 a)) (ds := []) #[false, false, false, false, false, false, false, false, false, false, false, false, false, false, false, false, false, false] (by kernel_rfl) rfl rfl ⟨by go_simp, by go_simp⟩ (fun hHeld => ?_)
  refine Go.Proofs.YtlmkhpgnkpgbdaaDoorW.PrintLast.pure_ (i := 0) (N := some 8) (v := ?_) (a' := ?_) #[true, false, false, false, false, false, false, false, false, false, false, false, false, false, false, false, false, false] rfl rfl (by kernel_rfl) (fun _ _ _ h => h) (Or.inl ⟨by rfl, ?_⟩) ?_ ?_
  rotate_left
  · intro w'
    go_simp
    with_reducible rfl
  rotate_left
  · simp only [Act.put, List.setIfInBounds_toArray, List.set_cons_zero, List.set_cons_succ, Go.Proofs.YtlmkhpgnkpgbdaaDoorW.PrintLast.i64_w, Go.Proofs.YtlmkhpgnkpgbdaaDoorW.PrintLast.i32_w]
    rfl
  refine Go.Proofs.YtlmkhpgnkpgbdaaDoorW.PrintLast.take_ (i := 1) (N := some 9) (v := ?_) (a' := ?_) #[true, true, false, false, false, false, false, false, false, false, false, false, false, false, false, false, false, false] rfl rfl (by kernel_rfl) (fun _ _ _ h => h) (Or.inl ⟨by rfl, ?_⟩) hHeld ?_ ?_
  rotate_left
  · rintro w' ⟨s0, s1⟩
    go_simp
    with_reducible rfl
  rotate_left
  · simp only [Act.put, List.setIfInBounds_toArray, List.set_cons_zero, List.set_cons_succ, Go.Proofs.YtlmkhpgnkpgbdaaDoorW.PrintLast.i64_w, Go.Proofs.YtlmkhpgnkpgbdaaDoorW.PrintLast.i32_w]
    rfl
  refine Go.Proofs.YtlmkhpgnkpgbdaaDoorW.PrintLast.pure_ (i := 2) (N := some 10) (v := ?_) (a' := ?_) #[true, true, true, false, false, false, false, false, false, false, false, false, false, false, false, false, false, false] rfl rfl (by kernel_rfl) (fun _ _ _ h => h) (Or.inl ⟨by rfl, ?_⟩) ?_ ?_
  rotate_left
  · intro w'
    go_simp
    with_reducible rfl
  rotate_left
  · simp only [Act.put, List.setIfInBounds_toArray, List.set_cons_zero, List.set_cons_succ, Go.Proofs.YtlmkhpgnkpgbdaaDoorW.PrintLast.i64_w, Go.Proofs.YtlmkhpgnkpgbdaaDoorW.PrintLast.i32_w]
    rfl
  refine Go.Proofs.YtlmkhpgnkpgbdaaDoorW.PrintLast.take_ (i := 3) (N := some 11) (v := ?_) (a' := ?_) #[true, true, true, true, false, false, false, false, false, false, false, false, false, false, false, false, false, false] rfl rfl (by kernel_rfl) (fun _ _ _ h => h) (Or.inl ⟨by rfl, ?_⟩) hHeld ?_ ?_
  rotate_left
  · rintro w' ⟨s0, s1⟩
    go_simp
    with_reducible rfl
  rotate_left
  · simp only [Act.put, List.setIfInBounds_toArray, List.set_cons_zero, List.set_cons_succ, Go.Proofs.YtlmkhpgnkpgbdaaDoorW.PrintLast.i64_w, Go.Proofs.YtlmkhpgnkpgbdaaDoorW.PrintLast.i32_w]
    rfl
  refine Go.Proofs.YtlmkhpgnkpgbdaaDoorW.PrintLast.pure_ (i := 4) (N := some 12) (v := ?_) (a' := ?_) #[true, true, true, true, true, false, false, false, false, false, false, false, false, false, false, false, false, false] rfl rfl (by kernel_rfl) (fun _ _ _ h => h) (Or.inl ⟨by rfl, ?_⟩) ?_ ?_
  rotate_left
  · intro w'
    go_simp
    with_reducible rfl
  rotate_left
  · simp only [Act.put, List.setIfInBounds_toArray, List.set_cons_zero, List.set_cons_succ, Go.Proofs.YtlmkhpgnkpgbdaaDoorW.PrintLast.i64_w, Go.Proofs.YtlmkhpgnkpgbdaaDoorW.PrintLast.i32_w]
    rfl
  refine Go.Proofs.YtlmkhpgnkpgbdaaDoorW.PrintLast.pure_ (i := 5) (N := some 13) (v := ?_) (a' := ?_) #[true, true, true, true, true, true, false, false, false, false, false, false, false, false, false, false, false, false] rfl rfl (by kernel_rfl) (fun _ _ _ h => h) (Or.inl ⟨by rfl, ?_⟩) ?_ ?_
  rotate_left
  · intro w'
    go_simp
    with_reducible rfl
  rotate_left
  · simp only [Act.put, List.setIfInBounds_toArray, List.set_cons_zero, List.set_cons_succ, Go.Proofs.YtlmkhpgnkpgbdaaDoorW.PrintLast.i64_w, Go.Proofs.YtlmkhpgnkpgbdaaDoorW.PrintLast.i32_w]
    rfl
  refine Go.Proofs.YtlmkhpgnkpgbdaaDoorW.PrintLast.take_ (i := 6) (N := some 14) (v := ?_) (a' := ?_) #[true, true, true, true, true, true, true, false, false, false, false, false, false, false, false, false, false, false] rfl rfl (by kernel_rfl) (fun _ _ _ h => h) (Or.inl ⟨by rfl, ?_⟩) hHeld ?_ ?_
  rotate_left
  · rintro w' ⟨s0, s1⟩
    go_simp
    with_reducible rfl
  rotate_left
  · simp only [Act.put, List.setIfInBounds_toArray, List.set_cons_zero, List.set_cons_succ, Go.Proofs.YtlmkhpgnkpgbdaaDoorW.PrintLast.i64_w, Go.Proofs.YtlmkhpgnkpgbdaaDoorW.PrintLast.i32_w]
    rfl
  refine Go.Proofs.YtlmkhpgnkpgbdaaDoorW.PrintLast.pure_ (i := 7) (N := some 15) (v := ?_) (a' := ?_) #[true, true, true, true, true, true, true, true, false, false, false, false, false, false, false, false, false, false] rfl rfl (by kernel_rfl) (fun _ _ _ h => h) (Or.inl ⟨by rfl, ?_⟩) ?_ ?_
  rotate_left
  · intro w'
    go_simp
    with_reducible rfl
  rotate_left
  · simp only [Act.put, List.setIfInBounds_toArray, List.set_cons_zero, List.set_cons_succ, Go.Proofs.YtlmkhpgnkpgbdaaDoorW.PrintLast.i64_w, Go.Proofs.YtlmkhpgnkpgbdaaDoorW.PrintLast.i32_w]
    rfl
  refine Go.Proofs.YtlmkhpgnkpgbdaaDoorW.PrintLast.pure_ (i := 8) (N := some 16) (v := ?_) (a' := ?_) #[true, true, true, true, true, true, true, true, true, false, false, false, false, false, false, false, false, false] rfl rfl (by kernel_rfl) (fun _ _ _ h => h) (Or.inl ⟨by rfl, ?_⟩) ?_ ?_
  rotate_left
  · intro w'
    go_simp
    with_reducible rfl
  rotate_left
  · simp only [Act.put, List.setIfInBounds_toArray, List.set_cons_zero, List.set_cons_succ, Go.Proofs.YtlmkhpgnkpgbdaaDoorW.PrintLast.i64_w, Go.Proofs.YtlmkhpgnkpgbdaaDoorW.PrintLast.i32_w]
    rfl
  refine Go.Proofs.YtlmkhpgnkpgbdaaDoorW.PrintLast.pure_ (i := 9) (N := some 17) (v := ?_) (a' := ?_) #[true, true, true, true, true, true, true, true, true, true, false, false, false, false, false, false, false, false] rfl rfl (by kernel_rfl) (fun _ _ _ h => h) (Or.inl ⟨by rfl, ?_⟩) ?_ ?_
  rotate_left
  · intro w'
    go_simp
    with_reducible rfl
  rotate_left
  · simp only [Act.put, List.setIfInBounds_toArray, List.set_cons_zero, List.set_cons_succ, Go.Proofs.YtlmkhpgnkpgbdaaDoorW.PrintLast.i64_w, Go.Proofs.YtlmkhpgnkpgbdaaDoorW.PrintLast.i32_w]
    rfl
  refine Go.Proofs.YtlmkhpgnkpgbdaaDoorW.PrintLast.take_ (i := 10) (N := some 18) (v := ?_) (a' := ?_) #[true, true, true, true, true, true, true, true, true, true, true, false, false, false, false, false, false, false] rfl rfl (by kernel_rfl) (fun _ _ _ h => h) (Or.inl ⟨by rfl, ?_⟩) hHeld ?_ ?_
  rotate_left
  · rintro w' ⟨s0, s1⟩
    go_simp
    with_reducible rfl
  rotate_left
  · simp only [Act.put, List.setIfInBounds_toArray, List.set_cons_zero, List.set_cons_succ, Go.Proofs.YtlmkhpgnkpgbdaaDoorW.PrintLast.i64_w, Go.Proofs.YtlmkhpgnkpgbdaaDoorW.PrintLast.i32_w]
    rfl
  refine Go.Proofs.YtlmkhpgnkpgbdaaDoorW.PrintLast.pure_ (i := 11) (N := some 19) (v := ?_) (a' := ?_) #[true, true, true, true, true, true, true, true, true, true, true, true, false, false, false, false, false, false] rfl rfl (by kernel_rfl) (fun _ _ _ h => h) (Or.inl ⟨by rfl, ?_⟩) ?_ ?_
  rotate_left
  · intro w'
    go_simp
    with_reducible rfl
  rotate_left
  · simp only [Act.put, List.setIfInBounds_toArray, List.set_cons_zero, List.set_cons_succ, Go.Proofs.YtlmkhpgnkpgbdaaDoorW.PrintLast.i64_w, Go.Proofs.YtlmkhpgnkpgbdaaDoorW.PrintLast.i32_w]
    rfl
  refine Go.Proofs.YtlmkhpgnkpgbdaaDoorW.PrintLast.pure_ (i := 12) (N := some 20) (v := ?_) (a' := ?_) #[true, true, true, true, true, true, true, true, true, true, true, true, true, false, false, false, false, false] rfl rfl (by kernel_rfl) (fun _ _ _ h => h) (Or.inl ⟨by rfl, ?_⟩) ?_ ?_
  rotate_left
  · intro w'
    go_simp
    with_reducible rfl
  rotate_left
  · simp only [Act.put, List.setIfInBounds_toArray, List.set_cons_zero, List.set_cons_succ, Go.Proofs.YtlmkhpgnkpgbdaaDoorW.PrintLast.i64_w, Go.Proofs.YtlmkhpgnkpgbdaaDoorW.PrintLast.i32_w]
    rfl
  refine Go.Proofs.YtlmkhpgnkpgbdaaDoorW.PrintLast.one_ (i := 13) (N := some 21) #[true, true, true, true, true, true, true, true, true, true, true, true, true, true, false, false, false, false] rfl rfl (by kernel_rfl) (by decide) (fun K hK => ?_)
  refine Go.Proofs.YtlmkhpgnkpgbdaaDoorW.PrintLast.goes_ Tryd.func59 (by kernel_rfl) rfl #[.int .i64 (wrap64 (a.tdiv b)), .bool false] (by rfl) rfl rfl (by (try simp only [List.map_toArray, List.map_cons, List.map_nil]); first | done | rfl) ?_
  refine (number_f _ _).mono ?_
  rintro e w1 ⟨rfl, hb⟩
  refine ⟨_, rfl, ?_⟩
  obtain ⟨a1, b1⟩ := hb.at_ p (by simp <;> omega)
  obtain ⟨a2, b2⟩ := hb.at_ q (by simp <;> omega)
  obtain ⟨c1, d1⟩ := hb.at_ w.heap.size (by simp)
  have z1 : w.heap.size < w1.heap.size := by have hz := hb.size; simp at hz; omega
  have G1 := Lib.hid (Nw.to (((Nw.refl w).alloc _).drew) hb)
  clear hb
  refine hK.out _ _ ⟨(a1 1).trans hHeld.1, (a2 1).trans hHeld.2⟩ (fun hHeld => ?_)
  clear hK K
  refine Go.Proofs.YtlmkhpgnkpgbdaaDoorW.PrintLast.norm_ (a' := ?_) ?_ ?_
  rotate_left
  · show Act.put _ (some 21) _ = _
    simp only [Act.put, List.setIfInBounds_toArray, List.set_cons_zero, List.set_cons_succ, Go.Proofs.YtlmkhpgnkpgbdaaDoorW.PrintLast.i64_w, Go.Proofs.YtlmkhpgnkpgbdaaDoorW.PrintLast.i32_w]
    rfl
  refine Go.Proofs.YtlmkhpgnkpgbdaaDoorW.PrintLast.pure_ (i := 14) (N := some 22) (v := ?_) (a' := ?_) #[true, true, true, true, true, true, true, true, true, true, true, true, true, true, true, false, false, false] rfl rfl (by kernel_rfl) (fun _ _ _ h => h) (Or.inl ⟨by rfl, ?_⟩) ?_ ?_
  rotate_left
  · intro w'
    go_simp
    with_reducible rfl
  rotate_left
  · simp only [Act.put, List.setIfInBounds_toArray, List.set_cons_zero, List.set_cons_succ, Go.Proofs.YtlmkhpgnkpgbdaaDoorW.PrintLast.i64_w, Go.Proofs.YtlmkhpgnkpgbdaaDoorW.PrintLast.i32_w]
    rfl
  refine Go.Proofs.YtlmkhpgnkpgbdaaDoorW.PrintLast.pure_ (i := 15) (N := some 23) (v := ?_) (a' := ?_) #[true, true, true, true, true, true, true, true, true, true, true, true, true, true, true, true, false, false] rfl rfl (by kernel_rfl) (fun _ _ _ h => h) (Or.inl ⟨by rfl, ?_⟩) ?_ ?_
  rotate_left
  · intro w'
    go_simp
    with_reducible rfl
  rotate_left
  · simp only [Act.put, List.setIfInBounds_toArray, List.set_cons_zero, List.set_cons_succ, Go.Proofs.YtlmkhpgnkpgbdaaDoorW.PrintLast.i64_w, Go.Proofs.YtlmkhpgnkpgbdaaDoorW.PrintLast.i32_w]
    rfl
  refine Go.Proofs.YtlmkhpgnkpgbdaaDoorW.PrintLast.one_ (i := 16) (N := none) #[true, true, true, true, true, true, true, true, true, true, true, true, true, true, true, true, true, false] rfl rfl (by kernel_rfl) (by decide) (fun K hK => ?_)
  refine Go.Proofs.YtlmkhpgnkpgbdaaDoorW.PrintLast.skip_ (w1 := ?_) (by rfl) rfl ?_ ?_
  rotate_left
  · go_simp
    rfl
  obtain ⟨t0, t1⟩ := hHeld
  refine hK.out _ _ ⟨by go_simp, by go_simp⟩ (fun hHeld => ?_)
  clear hHeld
  clear hK K
  refine Go.Proofs.YtlmkhpgnkpgbdaaDoorW.PrintLast.pure_ (i := 17) (N := some 3) (v := ?_) (a' := ?_) #[true, true, true, true, true, true, true, true, true, true, true, true, true, true, true, true, true, true] rfl rfl (by kernel_rfl) (fun _ _ _ h => h) (Or.inl ⟨by rfl, ?_⟩) ?_ ?_
  rotate_left
  · intro w'
    go_simp
    with_reducible rfl
  rotate_left
  · simp only [Act.put, List.setIfInBounds_toArray, List.set_cons_zero, List.set_cons_succ, Go.Proofs.YtlmkhpgnkpgbdaaDoorW.PrintLast.i64_w, Go.Proofs.YtlmkhpgnkpgbdaaDoorW.PrintLast.i32_w]
    rfl
  refine Go.Proofs.YtlmkhpgnkpgbdaaDoorW.PrintLast.done_ (by kernel_rfl) ?_
  go_wp2_with fail
  exact bodyPost_ret (v := .tuple #[.agg #[.int .i64 0, .int .i64 0, .string E, .bool false], .string sRange]) (by simp [results, Tryd.results61, go_sem, c1]) rfl ⟨rfl, (by repeat (first | exact Nw.refl _ | exact G1.out | apply Nw.alloc | apply Nw.drew | refine Nw.setCell ?_ (by simp <;> omega) _))⟩
end Vl
end Go.Proofs.YtlmkhpgnkpgbdaaDoor
