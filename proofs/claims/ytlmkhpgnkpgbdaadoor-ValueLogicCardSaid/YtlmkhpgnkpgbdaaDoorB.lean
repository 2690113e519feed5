/- SQL's values: lift, and what it lifts. -/
import Derived.Test.YtlmkhpgnkpgbdaaDoorA
import Derived.LoopN
namespace Go.Proofs.YtlmkhpgnkpgbdaaDoor
open Go.RowKit
set_option linter.unusedVariables false
set_option linter.unusedSimpArgs false
namespace Vl
set_option maxRecDepth 100000 in
set_option maxHeartbeats 1000000 in
theorem lift_1 (k : Int) (k1 n1 : Int) (s1 : ByteArray) (b1 : Bool) (k2 n2 : Int) (s2 : ByteArray) (b2 : Bool) (f : Value) (w : World) (h1 : (k1 != 0) = true) (h2 : (k1 != k) = true) : Calls Tryd.prog 53 #[.int .i64 k, .agg #[.int .i64 k1, .int .i64 n1, .string s1, .bool b1], .agg #[.int .i64 k2, .int .i64 n2, .string s2, .bool b2], f] w fun e w' => e = .returned (.tuple #[.agg #[.int .i64 0, .int .i64 0, .string E, .bool false], .string sMis]) ∧ Nw w w' := by
  have i0 : ∀ w, (Instr.index 84 (.agg #[.int .i64 k1, .int .i64 n1, .string s1, .bool b1, .int .i64 k2, .int .i64 n2, .string s2, .bool b2]) (.int .i64 0)).run Tryd.prog w = .ok (.agg #[.int .i64 k1, .int .i64 n1, .string s1, .bool b1]) w := fun _ => by kernel_rfl
  have i1 : ∀ w, (Instr.index 84 (.agg #[.int .i64 k1, .int .i64 n1, .string s1, .bool b1, .int .i64 k2, .int .i64 n2, .string s2, .bool b2]) (.int .i64 1)).run Tryd.prog w = .ok (.agg #[.int .i64 k2, .int .i64 n2, .string s2, .bool b2]) w := fun _ => by kernel_rfl
  go_enter Tryd.func53, Tryd.ntmps53
  go_wp2
  refine wp_loop_rounds 3 ?_
  rw [rounds_succ]
  go_wp2_with fail
  exact bodyPost_ret (v := .tuple #[.agg #[.int .i64 0, .int .i64 0, .string E, .bool false], .string sMis]) (by simp [results, Tryd.results53, go_sem]) rfl ⟨rfl, (by repeat (first | exact Nw.refl _ | assumption | apply Nw.alloc | apply Nw.drew | refine Nw.setCell ?_ (by simp <;> omega) _))⟩
set_option maxRecDepth 100000 in
set_option maxHeartbeats 1000000 in
theorem lift_2a (k : Int) (k1 n1 : Int) (s1 : ByteArray) (b1 : Bool) (k2 n2 : Int) (s2 : ByteArray) (b2 : Bool) (f : Value) (w : World) (h1 : (k1 != 0) = false) (h3 : (k2 != 0) = true) (h4 : (k2 != k) = true) : Calls Tryd.prog 53 #[.int .i64 k, .agg #[.int .i64 k1, .int .i64 n1, .string s1, .bool b1], .agg #[.int .i64 k2, .int .i64 n2, .string s2, .bool b2], f] w fun e w' => e = .returned (.tuple #[.agg #[.int .i64 0, .int .i64 0, .string E, .bool false], .string sMis]) ∧ Nw w w' := by
  have i0 : ∀ w, (Instr.index 84 (.agg #[.int .i64 k1, .int .i64 n1, .string s1, .bool b1, .int .i64 k2, .int .i64 n2, .string s2, .bool b2]) (.int .i64 0)).run Tryd.prog w = .ok (.agg #[.int .i64 k1, .int .i64 n1, .string s1, .bool b1]) w := fun _ => by kernel_rfl
  have i1 : ∀ w, (Instr.index 84 (.agg #[.int .i64 k1, .int .i64 n1, .string s1, .bool b1, .int .i64 k2, .int .i64 n2, .string s2, .bool b2]) (.int .i64 1)).run Tryd.prog w = .ok (.agg #[.int .i64 k2, .int .i64 n2, .string s2, .bool b2]) w := fun _ => by kernel_rfl
  go_enter Tryd.func53, Tryd.ntmps53
  go_wp2
  refine wp_loop_rounds 3 ?_
  rw [rounds_succ]
  go_wp2_with fail
  rw [rounds_succ]
  go_wp2_with fail
  exact bodyPost_ret (v := .tuple #[.agg #[.int .i64 0, .int .i64 0, .string E, .bool false], .string sMis]) (by simp [results, Tryd.results53, go_sem]) rfl ⟨rfl, (by repeat (first | exact Nw.refl _ | assumption | apply Nw.alloc | apply Nw.drew | refine Nw.setCell ?_ (by simp <;> omega) _))⟩
set_option maxRecDepth 100000 in
set_option maxHeartbeats 1000000 in
theorem lift_2b (k : Int) (k1 n1 : Int) (s1 : ByteArray) (b1 : Bool) (k2 n2 : Int) (s2 : ByteArray) (b2 : Bool) (f : Value) (w : World) (h1 : (k1 != 0) = true) (h2 : (k1 != k) = false) (h3 : (k2 != 0) = true) (h4 : (k2 != k) = true) : Calls Tryd.prog 53 #[.int .i64 k, .agg #[.int .i64 k1, .int .i64 n1, .string s1, .bool b1], .agg #[.int .i64 k2, .int .i64 n2, .string s2, .bool b2], f] w fun e w' => e = .returned (.tuple #[.agg #[.int .i64 0, .int .i64 0, .string E, .bool false], .string sMis]) ∧ Nw w w' := by
  have i0 : ∀ w, (Instr.index 84 (.agg #[.int .i64 k1, .int .i64 n1, .string s1, .bool b1, .int .i64 k2, .int .i64 n2, .string s2, .bool b2]) (.int .i64 0)).run Tryd.prog w = .ok (.agg #[.int .i64 k1, .int .i64 n1, .string s1, .bool b1]) w := fun _ => by kernel_rfl
  have i1 : ∀ w, (Instr.index 84 (.agg #[.int .i64 k1, .int .i64 n1, .string s1, .bool b1, .int .i64 k2, .int .i64 n2, .string s2, .bool b2]) (.int .i64 1)).run Tryd.prog w = .ok (.agg #[.int .i64 k2, .int .i64 n2, .string s2, .bool b2]) w := fun _ => by kernel_rfl
  go_enter Tryd.func53, Tryd.ntmps53
  go_wp2
  refine wp_loop_rounds 3 ?_
  rw [rounds_succ]
  go_wp2_with fail
  rw [rounds_succ]
  go_wp2_with fail
  exact bodyPost_ret (v := .tuple #[.agg #[.int .i64 0, .int .i64 0, .string E, .bool false], .string sMis]) (by simp [results, Tryd.results53, go_sem]) rfl ⟨rfl, (by repeat (first | exact Nw.refl _ | assumption | apply Nw.alloc | apply Nw.drew | refine Nw.setCell ?_ (by simp <;> omega) _))⟩
set_option maxRecDepth 100000 in
set_option maxHeartbeats 1000000 in
theorem lift_3a (k : Int) (k1 n1 : Int) (s1 : ByteArray) (b1 : Bool) (k2 n2 : Int) (s2 : ByteArray) (b2 : Bool) (f : Value) (w : World) (h1 : (k1 != 0) = false) (h3 : (k2 != 0) = false) (h5 : (k1 == 0) = true) : Calls Tryd.prog 53 #[.int .i64 k, .agg #[.int .i64 k1, .int .i64 n1, .string s1, .bool b1], .agg #[.int .i64 k2, .int .i64 n2, .string s2, .bool b2], f] w fun e w' => e = .returned (.tuple #[.agg #[.int .i64 0, .int .i64 0, .string E, .bool false], .string sDone]) ∧ Nw w w' := by
  have i0 : ∀ w, (Instr.index 84 (.agg #[.int .i64 k1, .int .i64 n1, .string s1, .bool b1, .int .i64 k2, .int .i64 n2, .string s2, .bool b2]) (.int .i64 0)).run Tryd.prog w = .ok (.agg #[.int .i64 k1, .int .i64 n1, .string s1, .bool b1]) w := fun _ => by kernel_rfl
  have i1 : ∀ w, (Instr.index 84 (.agg #[.int .i64 k1, .int .i64 n1, .string s1, .bool b1, .int .i64 k2, .int .i64 n2, .string s2, .bool b2]) (.int .i64 1)).run Tryd.prog w = .ok (.agg #[.int .i64 k2, .int .i64 n2, .string s2, .bool b2]) w := fun _ => by kernel_rfl
  go_enter Tryd.func53, Tryd.ntmps53
  go_wp2
  refine wp_loop_rounds 3 ?_
  rw [rounds_succ]
  go_wp2_with fail
  rw [rounds_succ]
  go_wp2_with fail
  rw [rounds_succ]
  go_wp2_with fail
  exact bodyPost_ret (v := .tuple #[.agg #[.int .i64 0, .int .i64 0, .string E, .bool false], .string sDone]) (by simp [results, Tryd.results53, go_sem]) rfl ⟨rfl, (by repeat (first | exact Nw.refl _ | assumption | apply Nw.alloc | apply Nw.drew | refine Nw.setCell ?_ (by simp <;> omega) _))⟩
set_option maxRecDepth 100000 in
set_option maxHeartbeats 1000000 in
theorem lift_3b (k : Int) (k1 n1 : Int) (s1 : ByteArray) (b1 : Bool) (k2 n2 : Int) (s2 : ByteArray) (b2 : Bool) (f : Value) (w : World) (h1 : (k1 != 0) = false) (h3 : (k2 != 0) = true) (h4 : (k2 != k) = false) (h5 : (k1 == 0) = true) : Calls Tryd.prog 53 #[.int .i64 k, .agg #[.int .i64 k1, .int .i64 n1, .string s1, .bool b1], .agg #[.int .i64 k2, .int .i64 n2, .string s2, .bool b2], f] w fun e w' => e = .returned (.tuple #[.agg #[.int .i64 0, .int .i64 0, .string E, .bool false], .string sDone]) ∧ Nw w w' := by
  have i0 : ∀ w, (Instr.index 84 (.agg #[.int .i64 k1, .int .i64 n1, .string s1, .bool b1, .int .i64 k2, .int .i64 n2, .string s2, .bool b2]) (.int .i64 0)).run Tryd.prog w = .ok (.agg #[.int .i64 k1, .int .i64 n1, .string s1, .bool b1]) w := fun _ => by kernel_rfl
  have i1 : ∀ w, (Instr.index 84 (.agg #[.int .i64 k1, .int .i64 n1, .string s1, .bool b1, .int .i64 k2, .int .i64 n2, .string s2, .bool b2]) (.int .i64 1)).run Tryd.prog w = .ok (.agg #[.int .i64 k2, .int .i64 n2, .string s2, .bool b2]) w := fun _ => by kernel_rfl
  go_enter Tryd.func53, Tryd.ntmps53
  go_wp2
  refine wp_loop_rounds 3 ?_
  rw [rounds_succ]
  go_wp2_with fail
  rw [rounds_succ]
  go_wp2_with fail
  rw [rounds_succ]
  go_wp2_with fail
  exact bodyPost_ret (v := .tuple #[.agg #[.int .i64 0, .int .i64 0, .string E, .bool false], .string sDone]) (by simp [results, Tryd.results53, go_sem]) rfl ⟨rfl, (by repeat (first | exact Nw.refl _ | assumption | apply Nw.alloc | apply Nw.drew | refine Nw.setCell ?_ (by simp <;> omega) _))⟩
set_option maxRecDepth 100000 in
set_option maxHeartbeats 1000000 in
theorem lift_3c (k : Int) (k1 n1 : Int) (s1 : ByteArray) (b1 : Bool) (k2 n2 : Int) (s2 : ByteArray) (b2 : Bool) (f : Value) (w : World) (h1 : (k1 != 0) = true) (h2 : (k1 != k) = false) (h3 : (k2 != 0) = false) (h5 : (k1 == 0) = false) (h6 : (k2 == 0) = true) : Calls Tryd.prog 53 #[.int .i64 k, .agg #[.int .i64 k1, .int .i64 n1, .string s1, .bool b1], .agg #[.int .i64 k2, .int .i64 n2, .string s2, .bool b2], f] w fun e w' => e = .returned (.tuple #[.agg #[.int .i64 0, .int .i64 0, .string E, .bool false], .string sDone]) ∧ Nw w w' := by
  have i0 : ∀ w, (Instr.index 84 (.agg #[.int .i64 k1, .int .i64 n1, .string s1, .bool b1, .int .i64 k2, .int .i64 n2, .string s2, .bool b2]) (.int .i64 0)).run Tryd.prog w = .ok (.agg #[.int .i64 k1, .int .i64 n1, .string s1, .bool b1]) w := fun _ => by kernel_rfl
  have i1 : ∀ w, (Instr.index 84 (.agg #[.int .i64 k1, .int .i64 n1, .string s1, .bool b1, .int .i64 k2, .int .i64 n2, .string s2, .bool b2]) (.int .i64 1)).run Tryd.prog w = .ok (.agg #[.int .i64 k2, .int .i64 n2, .string s2, .bool b2]) w := fun _ => by kernel_rfl
  go_enter Tryd.func53, Tryd.ntmps53
  go_wp2
  refine wp_loop_rounds 3 ?_
  rw [rounds_succ]
  go_wp2_with fail
  rw [rounds_succ]
  go_wp2_with fail
  rw [rounds_succ]
  go_wp2_with fail
  exact bodyPost_ret (v := .tuple #[.agg #[.int .i64 0, .int .i64 0, .string E, .bool false], .string sDone]) (by simp [results, Tryd.results53, go_sem]) rfl ⟨rfl, (by repeat (first | exact Nw.refl _ | assumption | apply Nw.alloc | apply Nw.drew | refine Nw.setCell ?_ (by simp <;> omega) _))⟩
set_option maxRecDepth 100000 in
set_option maxHeartbeats 1000000 in
theorem lift_4_58 (k : Int) (k1 n1 : Int) (s1 : ByteArray) (b1 : Bool) (k2 n2 : Int) (s2 : ByteArray) (b2 : Bool) (p q : Addr) (kr nr : Int) (sr : ByteArray) (br : Bool) (st : ByteArray) (w : World) (h1 : (k1 != 0) = true) (h2 : (k1 != k) = false) (h3 : (k2 != 0) = true) (h4 : (k2 != k) = false) (h5 : (k1 == 0) = false) (h6 : (k2 == 0) = false)
    (hdo : ∀ W, Nw w W → Calls Tryd.prog 58 #[.pointer (some p), .pointer (some q)] W fun e w' => e = .returned (.tuple #[.agg #[.int .i64 kr, .int .i64 nr, .string sr, .bool br], .string st]) ∧ Nw W w') :
    Calls Tryd.prog 53 #[.int .i64 k, .agg #[.int .i64 k1, .int .i64 n1, .string s1, .bool b1], .agg #[.int .i64 k2, .int .i64 n2, .string s2, .bool b2], .func (.func 58) #[] #[.pointer (some p), .pointer (some q)]] w fun e w' => e = .returned (.tuple #[.agg #[.int .i64 kr, .int .i64 nr, .string sr, .bool br], .string st]) ∧ Nw w w' := by
  have HD := Lib.hid hdo
  clear hdo
  have i0 : ∀ w, (Instr.index 84 (.agg #[.int .i64 k1, .int .i64 n1, .string s1, .bool b1, .int .i64 k2, .int .i64 n2, .string s2, .bool b2]) (.int .i64 0)).run Tryd.prog w = .ok (.agg #[.int .i64 k1, .int .i64 n1, .string s1, .bool b1]) w := fun _ => by kernel_rfl
  have i1 : ∀ w, (Instr.index 84 (.agg #[.int .i64 k1, .int .i64 n1, .string s1, .bool b1, .int .i64 k2, .int .i64 n2, .string s2, .bool b2]) (.int .i64 1)).run Tryd.prog w = .ok (.agg #[.int .i64 k2, .int .i64 n2, .string s2, .bool b2]) w := fun _ => by kernel_rfl
  go_enter Tryd.func53, Tryd.ntmps53
  go_wp2
  refine wp_loop_rounds 3 ?_
  rw [rounds_succ]
  go_wp2_with fail
  rw [rounds_succ]
  go_wp2_with fail
  rw [rounds_succ]
  go_wp2_with fail
  refine (HD.out _ (by repeat (first | exact Nw.refl _ | assumption | apply Nw.alloc | apply Nw.drew | refine Nw.setCell ?_ (by simp <;> omega) _))).mono ?_
  rintro e w1 ⟨rfl, hb⟩
  obtain ⟨q1, q2⟩ := hb.at_ (w.heap.size + 2) (by simp <;> omega)
  have hz := hb.size
  (try simp at hz)
  have G := Lib.hid hb
  clear hb
  go_wp2_with fail
  exact bodyPost_ret (v := .tuple #[.agg #[.int .i64 kr, .int .i64 nr, .string sr, .bool br], .string st]) (by simp [results, Tryd.results53, go_sem, q1]) rfl ⟨rfl, (by repeat (first | exact Nw.refl _ | exact Nw.to (b := _) (by repeat (first | exact Nw.refl _ | assumption | apply Nw.alloc | apply Nw.drew | refine Nw.setCell ?_ (by simp <;> omega) _)) G.out | apply Nw.alloc | apply Nw.drew | refine Nw.setCell ?_ (by simp <;> omega) _))⟩
set_option maxRecDepth 100000 in
set_option maxHeartbeats 1000000 in
theorem lift_4_60 (k : Int) (k1 n1 : Int) (s1 : ByteArray) (b1 : Bool) (k2 n2 : Int) (s2 : ByteArray) (b2 : Bool) (p q : Addr) (kr nr : Int) (sr : ByteArray) (br : Bool) (st : ByteArray) (w : World) (h1 : (k1 != 0) = true) (h2 : (k1 != k) = false) (h3 : (k2 != 0) = true) (h4 : (k2 != k) = false) (h5 : (k1 == 0) = false) (h6 : (k2 == 0) = false)
    (hdo : ∀ W, Nw w W → Calls Tryd.prog 60 #[.pointer (some p), .pointer (some q)] W fun e w' => e = .returned (.tuple #[.agg #[.int .i64 kr, .int .i64 nr, .string sr, .bool br], .string st]) ∧ Nw W w') :
    Calls Tryd.prog 53 #[.int .i64 k, .agg #[.int .i64 k1, .int .i64 n1, .string s1, .bool b1], .agg #[.int .i64 k2, .int .i64 n2, .string s2, .bool b2], .func (.func 60) #[] #[.pointer (some p), .pointer (some q)]] w fun e w' => e = .returned (.tuple #[.agg #[.int .i64 kr, .int .i64 nr, .string sr, .bool br], .string st]) ∧ Nw w w' := by
  have HD := Lib.hid hdo
  clear hdo
  have i0 : ∀ w, (Instr.index 84 (.agg #[.int .i64 k1, .int .i64 n1, .string s1, .bool b1, .int .i64 k2, .int .i64 n2, .string s2, .bool b2]) (.int .i64 0)).run Tryd.prog w = .ok (.agg #[.int .i64 k1, .int .i64 n1, .string s1, .bool b1]) w := fun _ => by kernel_rfl
  have i1 : ∀ w, (Instr.index 84 (.agg #[.int .i64 k1, .int .i64 n1, .string s1, .bool b1, .int .i64 k2, .int .i64 n2, .string s2, .bool b2]) (.int .i64 1)).run Tryd.prog w = .ok (.agg #[.int .i64 k2, .int .i64 n2, .string s2, .bool b2]) w := fun _ => by kernel_rfl
  go_enter Tryd.func53, Tryd.ntmps53
  go_wp2
  refine wp_loop_rounds 3 ?_
  rw [rounds_succ]
  go_wp2_with fail
  rw [rounds_succ]
  go_wp2_with fail
  rw [rounds_succ]
  go_wp2_with fail
  refine (HD.out _ (by repeat (first | exact Nw.refl _ | assumption | apply Nw.alloc | apply Nw.drew | refine Nw.setCell ?_ (by simp <;> omega) _))).mono ?_
  rintro e w1 ⟨rfl, hb⟩
  obtain ⟨q1, q2⟩ := hb.at_ (w.heap.size + 2) (by simp <;> omega)
  have hz := hb.size
  (try simp at hz)
  have G := Lib.hid hb
  clear hb
  go_wp2_with fail
  exact bodyPost_ret (v := .tuple #[.agg #[.int .i64 kr, .int .i64 nr, .string sr, .bool br], .string st]) (by simp [results, Tryd.results53, go_sem, q1]) rfl ⟨rfl, (by repeat (first | exact Nw.refl _ | exact Nw.to (b := _) (by repeat (first | exact Nw.refl _ | assumption | apply Nw.alloc | apply Nw.drew | refine Nw.setCell ?_ (by simp <;> omega) _)) G.out | apply Nw.alloc | apply Nw.drew | refine Nw.setCell ?_ (by simp <;> omega) _))⟩
set_option maxRecDepth 100000 in
set_option maxHeartbeats 1000000 in
theorem lift_4_61 (k : Int) (k1 n1 : Int) (s1 : ByteArray) (b1 : Bool) (k2 n2 : Int) (s2 : ByteArray) (b2 : Bool) (p q : Addr) (kr nr : Int) (sr : ByteArray) (br : Bool) (st : ByteArray) (w : World) (h1 : (k1 != 0) = true) (h2 : (k1 != k) = false) (h3 : (k2 != 0) = true) (h4 : (k2 != k) = false) (h5 : (k1 == 0) = false) (h6 : (k2 == 0) = false)
    (hdo : ∀ W, Nw w W → Calls Tryd.prog 61 #[.pointer (some p), .pointer (some q)] W fun e w' => e = .returned (.tuple #[.agg #[.int .i64 kr, .int .i64 nr, .string sr, .bool br], .string st]) ∧ Nw W w') :
    Calls Tryd.prog 53 #[.int .i64 k, .agg #[.int .i64 k1, .int .i64 n1, .string s1, .bool b1], .agg #[.int .i64 k2, .int .i64 n2, .string s2, .bool b2], .func (.func 61) #[] #[.pointer (some p), .pointer (some q)]] w fun e w' => e = .returned (.tuple #[.agg #[.int .i64 kr, .int .i64 nr, .string sr, .bool br], .string st]) ∧ Nw w w' := by
  have HD := Lib.hid hdo
  clear hdo
  have i0 : ∀ w, (Instr.index 84 (.agg #[.int .i64 k1, .int .i64 n1, .string s1, .bool b1, .int .i64 k2, .int .i64 n2, .string s2, .bool b2]) (.int .i64 0)).run Tryd.prog w = .ok (.agg #[.int .i64 k1, .int .i64 n1, .string s1, .bool b1]) w := fun _ => by kernel_rfl
  have i1 : ∀ w, (Instr.index 84 (.agg #[.int .i64 k1, .int .i64 n1, .string s1, .bool b1, .int .i64 k2, .int .i64 n2, .string s2, .bool b2]) (.int .i64 1)).run Tryd.prog w = .ok (.agg #[.int .i64 k2, .int .i64 n2, .string s2, .bool b2]) w := fun _ => by kernel_rfl
  go_enter Tryd.func53, Tryd.ntmps53
  go_wp2
  refine wp_loop_rounds 3 ?_
  rw [rounds_succ]
  go_wp2_with fail
  rw [rounds_succ]
  go_wp2_with fail
  rw [rounds_succ]
  go_wp2_with fail
  refine (HD.out _ (by repeat (first | exact Nw.refl _ | assumption | apply Nw.alloc | apply Nw.drew | refine Nw.setCell ?_ (by simp <;> omega) _))).mono ?_
  rintro e w1 ⟨rfl, hb⟩
  obtain ⟨q1, q2⟩ := hb.at_ (w.heap.size + 2) (by simp <;> omega)
  have hz := hb.size
  (try simp at hz)
  have G := Lib.hid hb
  clear hb
  go_wp2_with fail
  exact bodyPost_ret (v := .tuple #[.agg #[.int .i64 kr, .int .i64 nr, .string sr, .bool br], .string st]) (by simp [results, Tryd.results53, go_sem, q1]) rfl ⟨rfl, (by repeat (first | exact Nw.refl _ | exact Nw.to (b := _) (by repeat (first | exact Nw.refl _ | assumption | apply Nw.alloc | apply Nw.drew | refine Nw.setCell ?_ (by simp <;> omega) _)) G.out | apply Nw.alloc | apply Nw.drew | refine Nw.setCell ?_ (by simp <;> omega) _))⟩
set_option maxRecDepth 100000 in
set_option maxHeartbeats 1000000 in
theorem lift_4_62 (k : Int) (k1 n1 : Int) (s1 : ByteArray) (b1 : Bool) (k2 n2 : Int) (s2 : ByteArray) (b2 : Bool) (p q : Addr) (kr nr : Int) (sr : ByteArray) (br : Bool) (st : ByteArray) (w : World) (h1 : (k1 != 0) = true) (h2 : (k1 != k) = false) (h3 : (k2 != 0) = true) (h4 : (k2 != k) = false) (h5 : (k1 == 0) = false) (h6 : (k2 == 0) = false)
    (hdo : ∀ W, Nw w W → Calls Tryd.prog 62 #[.pointer (some p), .pointer (some q)] W fun e w' => e = .returned (.tuple #[.agg #[.int .i64 kr, .int .i64 nr, .string sr, .bool br], .string st]) ∧ Nw W w') :
    Calls Tryd.prog 53 #[.int .i64 k, .agg #[.int .i64 k1, .int .i64 n1, .string s1, .bool b1], .agg #[.int .i64 k2, .int .i64 n2, .string s2, .bool b2], .func (.func 62) #[] #[.pointer (some p), .pointer (some q)]] w fun e w' => e = .returned (.tuple #[.agg #[.int .i64 kr, .int .i64 nr, .string sr, .bool br], .string st]) ∧ Nw w w' := by
  have HD := Lib.hid hdo
  clear hdo
  have i0 : ∀ w, (Instr.index 84 (.agg #[.int .i64 k1, .int .i64 n1, .string s1, .bool b1, .int .i64 k2, .int .i64 n2, .string s2, .bool b2]) (.int .i64 0)).run Tryd.prog w = .ok (.agg #[.int .i64 k1, .int .i64 n1, .string s1, .bool b1]) w := fun _ => by kernel_rfl
  have i1 : ∀ w, (Instr.index 84 (.agg #[.int .i64 k1, .int .i64 n1, .string s1, .bool b1, .int .i64 k2, .int .i64 n2, .string s2, .bool b2]) (.int .i64 1)).run Tryd.prog w = .ok (.agg #[.int .i64 k2, .int .i64 n2, .string s2, .bool b2]) w := fun _ => by kernel_rfl
  go_enter Tryd.func53, Tryd.ntmps53
  go_wp2
  refine wp_loop_rounds 3 ?_
  rw [rounds_succ]
  go_wp2_with fail
  rw [rounds_succ]
  go_wp2_with fail
  rw [rounds_succ]
  go_wp2_with fail
  refine (HD.out _ (by repeat (first | exact Nw.refl _ | assumption | apply Nw.alloc | apply Nw.drew | refine Nw.setCell ?_ (by simp <;> omega) _))).mono ?_
  rintro e w1 ⟨rfl, hb⟩
  obtain ⟨q1, q2⟩ := hb.at_ (w.heap.size + 2) (by simp <;> omega)
  have hz := hb.size
  (try simp at hz)
  have G := Lib.hid hb
  clear hb
  go_wp2_with fail
  exact bodyPost_ret (v := .tuple #[.agg #[.int .i64 kr, .int .i64 nr, .string sr, .bool br], .string st]) (by simp [results, Tryd.results53, go_sem, q1]) rfl ⟨rfl, (by repeat (first | exact Nw.refl _ | exact Nw.to (b := _) (by repeat (first | exact Nw.refl _ | assumption | apply Nw.alloc | apply Nw.drew | refine Nw.setCell ?_ (by simp <;> omega) _)) G.out | apply Nw.alloc | apply Nw.drew | refine Nw.setCell ?_ (by simp <;> omega) _))⟩
set_option maxRecDepth 100000 in
set_option maxHeartbeats 1000000 in
theorem lift_4_54 (k : Int) (k1 n1 : Int) (s1 : ByteArray) (b1 : Bool) (k2 n2 : Int) (s2 : ByteArray) (b2 : Bool) (p q : Addr) (kr nr : Int) (sr : ByteArray) (br : Bool) (st : ByteArray) (w : World) (h1 : (k1 != 0) = true) (h2 : (k1 != k) = false) (h3 : (k2 != 0) = true) (h4 : (k2 != k) = false) (h5 : (k1 == 0) = false) (h6 : (k2 == 0) = false)
    (hdo : ∀ W, Nw w W → Calls Tryd.prog 54 #[.pointer (some p), .pointer (some q)] W fun e w' => e = .returned (.tuple #[.agg #[.int .i64 kr, .int .i64 nr, .string sr, .bool br], .string st]) ∧ Nw W w') :
    Calls Tryd.prog 53 #[.int .i64 k, .agg #[.int .i64 k1, .int .i64 n1, .string s1, .bool b1], .agg #[.int .i64 k2, .int .i64 n2, .string s2, .bool b2], .func (.func 54) #[] #[.pointer (some p), .pointer (some q)]] w fun e w' => e = .returned (.tuple #[.agg #[.int .i64 kr, .int .i64 nr, .string sr, .bool br], .string st]) ∧ Nw w w' := by
  have HD := Lib.hid hdo
  clear hdo
  have i0 : ∀ w, (Instr.index 84 (.agg #[.int .i64 k1, .int .i64 n1, .string s1, .bool b1, .int .i64 k2, .int .i64 n2, .string s2, .bool b2]) (.int .i64 0)).run Tryd.prog w = .ok (.agg #[.int .i64 k1, .int .i64 n1, .string s1, .bool b1]) w := fun _ => by kernel_rfl
  have i1 : ∀ w, (Instr.index 84 (.agg #[.int .i64 k1, .int .i64 n1, .string s1, .bool b1, .int .i64 k2, .int .i64 n2, .string s2, .bool b2]) (.int .i64 1)).run Tryd.prog w = .ok (.agg #[.int .i64 k2, .int .i64 n2, .string s2, .bool b2]) w := fun _ => by kernel_rfl
  go_enter Tryd.func53, Tryd.ntmps53
  go_wp2
  refine wp_loop_rounds 3 ?_
  rw [rounds_succ]
  go_wp2_with fail
  rw [rounds_succ]
  go_wp2_with fail
  rw [rounds_succ]
  go_wp2_with fail
  refine (HD.out _ (by repeat (first | exact Nw.refl _ | assumption | apply Nw.alloc | apply Nw.drew | refine Nw.setCell ?_ (by simp <;> omega) _))).mono ?_
  rintro e w1 ⟨rfl, hb⟩
  obtain ⟨q1, q2⟩ := hb.at_ (w.heap.size + 2) (by simp <;> omega)
  have hz := hb.size
  (try simp at hz)
  have G := Lib.hid hb
  clear hb
  go_wp2_with fail
  exact bodyPost_ret (v := .tuple #[.agg #[.int .i64 kr, .int .i64 nr, .string sr, .bool br], .string st]) (by simp [results, Tryd.results53, go_sem, q1]) rfl ⟨rfl, (by repeat (first | exact Nw.refl _ | exact Nw.to (b := _) (by repeat (first | exact Nw.refl _ | assumption | apply Nw.alloc | apply Nw.drew | refine Nw.setCell ?_ (by simp <;> omega) _)) G.out | apply Nw.alloc | apply Nw.drew | refine Nw.setCell ?_ (by simp <;> omega) _))⟩
set_option maxRecDepth 100000 in
theorem add_t (p q : Nat) (a b : Int) (w : World) (c1 : w.cell? ⟨p, 1, none⟩ = some (.int .i64 a)) (c2 : w.cell? ⟨q, 1, none⟩ = some (.int .i64 b)) (hk : (decide (a < wrap64 (a + b)) == decide (0 < b)) = true) : Calls Tryd.prog 58 #[.pointer (some ⟨p, 0, none⟩), .pointer (some ⟨q, 0, none⟩)] w fun e w' => e = .returned (.tuple #[.agg #[.int .i64 1, .int .i64 (wrap64 (a + b)), .string E, .bool false], .string sDone]) ∧ Nw w w' := by
  have lp := World.block_lt_of_cell? w _ c1
  have lq := World.block_lt_of_cell? w _ c2
  simp only at lp lq
  go_enter Tryd.func58, Tryd.ntmps58
  go_wp2_with fail
  refine (number_t _ _).mono ?_
  rintro e w1 ⟨rfl, hb⟩
  obtain ⟨q1, q2⟩ := hb.at_ w.heap.size (by simp)
  have hz := hb.size
  (try simp at hz)
  have G := Lib.hid (((Nw.refl w).alloc _).to hb)
  clear hb
  go_wp2_with fail
  exact bodyPost_ret (v := .tuple #[.agg #[.int .i64 1, .int .i64 (wrap64 (a + b)), .string E, .bool false], .string sDone]) (by simp [results, Tryd.results58, go_sem, q1]) rfl ⟨rfl, (by repeat (first | exact Nw.refl _ | exact G.out | apply Nw.alloc | apply Nw.drew | refine Nw.setCell ?_ (by simp <;> omega) _))⟩
set_option maxRecDepth 100000 in
theorem add_f (p q : Nat) (a b : Int) (w : World) (c1 : w.cell? ⟨p, 1, none⟩ = some (.int .i64 a)) (c2 : w.cell? ⟨q, 1, none⟩ = some (.int .i64 b)) (hk : (decide (a < wrap64 (a + b)) == decide (0 < b)) = false) : Calls Tryd.prog 58 #[.pointer (some ⟨p, 0, none⟩), .pointer (some ⟨q, 0, none⟩)] w fun e w' => e = .returned (.tuple #[.agg #[.int .i64 0, .int .i64 0, .string E, .bool false], .string sRange]) ∧ Nw w w' := by
  have lp := World.block_lt_of_cell? w _ c1
  have lq := World.block_lt_of_cell? w _ c2
  simp only at lp lq
  go_enter Tryd.func58, Tryd.ntmps58
  go_wp2_with fail
  refine (number_f _ _).mono ?_
  rintro e w1 ⟨rfl, hb⟩
  obtain ⟨q1, q2⟩ := hb.at_ w.heap.size (by simp)
  have hz := hb.size
  (try simp at hz)
  have G := Lib.hid (((Nw.refl w).alloc _).to hb)
  clear hb
  go_wp2_with fail
  exact bodyPost_ret (v := .tuple #[.agg #[.int .i64 0, .int .i64 0, .string E, .bool false], .string sRange]) (by simp [results, Tryd.results58, go_sem, q1]) rfl ⟨rfl, (by repeat (first | exact Nw.refl _ | exact G.out | apply Nw.alloc | apply Nw.drew | refine Nw.setCell ?_ (by simp <;> omega) _))⟩
set_option maxRecDepth 100000 in
theorem sub_t (p q : Nat) (a b : Int) (w : World) (c1 : w.cell? ⟨p, 1, none⟩ = some (.int .i64 a)) (c2 : w.cell? ⟨q, 1, none⟩ = some (.int .i64 b)) (hk : (decide (wrap64 (a - b) < a) == decide (0 < b)) = true) : Calls Tryd.prog 60 #[.pointer (some ⟨p, 0, none⟩), .pointer (some ⟨q, 0, none⟩)] w fun e w' => e = .returned (.tuple #[.agg #[.int .i64 1, .int .i64 (wrap64 (a - b)), .string E, .bool false], .string sDone]) ∧ Nw w w' := by
  have lp := World.block_lt_of_cell? w _ c1
  have lq := World.block_lt_of_cell? w _ c2
  simp only at lp lq
  go_enter Tryd.func60, Tryd.ntmps60
  go_wp2_with fail
  refine (number_t _ _).mono ?_
  rintro e w1 ⟨rfl, hb⟩
  obtain ⟨q1, q2⟩ := hb.at_ w.heap.size (by simp)
  have hz := hb.size
  (try simp at hz)
  have G := Lib.hid (((Nw.refl w).alloc _).to hb)
  clear hb
  go_wp2_with fail
  exact bodyPost_ret (v := .tuple #[.agg #[.int .i64 1, .int .i64 (wrap64 (a - b)), .string E, .bool false], .string sDone]) (by simp [results, Tryd.results60, go_sem, q1]) rfl ⟨rfl, (by repeat (first | exact Nw.refl _ | exact G.out | apply Nw.alloc | apply Nw.drew | refine Nw.setCell ?_ (by simp <;> omega) _))⟩
set_option maxRecDepth 100000 in
theorem sub_f (p q : Nat) (a b : Int) (w : World) (c1 : w.cell? ⟨p, 1, none⟩ = some (.int .i64 a)) (c2 : w.cell? ⟨q, 1, none⟩ = some (.int .i64 b)) (hk : (decide (wrap64 (a - b) < a) == decide (0 < b)) = false) : Calls Tryd.prog 60 #[.pointer (some ⟨p, 0, none⟩), .pointer (some ⟨q, 0, none⟩)] w fun e w' => e = .returned (.tuple #[.agg #[.int .i64 0, .int .i64 0, .string E, .bool false], .string sRange]) ∧ Nw w w' := by
  have lp := World.block_lt_of_cell? w _ c1
  have lq := World.block_lt_of_cell? w _ c2
  simp only at lp lq
  go_enter Tryd.func60, Tryd.ntmps60
  go_wp2_with fail
  refine (number_f _ _).mono ?_
  rintro e w1 ⟨rfl, hb⟩
  obtain ⟨q1, q2⟩ := hb.at_ w.heap.size (by simp)
  have hz := hb.size
  (try simp at hz)
  have G := Lib.hid (((Nw.refl w).alloc _).to hb)
  clear hb
  go_wp2_with fail
  exact bodyPost_ret (v := .tuple #[.agg #[.int .i64 0, .int .i64 0, .string E, .bool false], .string sRange]) (by simp [results, Tryd.results60, go_sem, q1]) rfl ⟨rfl, (by repeat (first | exact Nw.refl _ | exact G.out | apply Nw.alloc | apply Nw.drew | refine Nw.setCell ?_ (by simp <;> omega) _))⟩
end Vl
end Go.Proofs.YtlmkhpgnkpgbdaaDoor
