/-
  Whole numbers are whole: what is added is taken away again, a number is divisor times quotient and rest. It is proved for every input; the row lists two package-level tables of Go's package unicode/utf8 (tied to the program's text; one of them is pinned).
-/
import Derived.Test.YtlmkhpgnkpgbdaaDoorXNumbers1
import Derived.RangeFuncRecord
import Derived.MapKept
import Derived.Lib.Hide
import Derived.Test.YtlmkhpgnkpgbdaaDoorXNumbers2
namespace Go.Proofs.YtlmkhpgnkpgbdaaDoor
open Go.RowKit Go.Proofs.YtlmkhpgnkpgbdaaDoor.PNUM Go.Proofs.YtlmkhpgnkpgbdaaDoorW.PrintWords Go.Proofs.YtlmkhpgnkpgbdaaDoorW.PrintLast
set_option linter.unusedVariables false
set_option linter.unusedSimpArgs false
namespace Vl
attribute [local go_sem high] eqA28
theorem cell_fr {w : World} {D i : Nat} {cs : Array Value} {t : TypeId} {v : Value} {fr : Nat × Nat} (h : w.heap[D]? = some (.cells cs t fr)) (h4 : cs[i]? = some v) : w.cell? ⟨D, i, none⟩ = some v := by simp [World.cell?, h, h4]
theorem alive_w (w : World) : Calls Tryd.prog 12 #[] w fun e w' => e = .returned (.bool true) ∧ Below w.heap.size w w' := stilelaw01_alive.calls 40 true w (by decide +kernel)
theorem num30 (n : Int) (w : World) : Calls Tryd.prog 30 #[.int .i64 n] w fun e w' => e = .returned (.agg #[.int .i64 1, .int .i64 n, .string E, .bool false]) ∧ Below w.heap.size w w' := by
  go_enter Tryd.func30, Tryd.ntmps30
  go_wp2
  exact bodyPost_ret (v := .agg #[.int .i64 1, .int .i64 n, .string ⟨#[]⟩, .bool false]) (by simp [results, Tryd.results30, go_sem]) rfl ⟨rfl, (Below.refl _ _).alloc (Nat.le_refl _) _⟩
set_option maxHeartbeats 2000000 in
set_option maxRecDepth 100000 in
theorem num_zero_y (a b c : Int) (w : World) (HADD : Hid (liftF 1 1 1 (addF a b) = (1, c, E, false, sDone))) (HBACK : Hid (liftF 1 1 1 (subF c b) = (1, a, E, false, sDone))) (HB : Hid (b = 0)) (HDIV : Hid (liftF 1 1 1 (divF a b) = (0, 0, E, false, ⟨#[50, 50, 48, 49, 50]⟩))) : Calls Tryd.prog 8 #[.int .i64 a, .int .i64 b] w fun e w' => e = .returned (.bool true) ∧ Below w.heap.size w w' := by
  have t1 : (b == 0) = true := beq_iff_eq.2 HB.out
  go_enter Tryd.func8, Tryd.ntmps8
  go_wp2_with fail
  refine (num30 a _).mono ?_
  rintro e w1 ⟨rfl, hb1⟩
  have HB1 := Lib.hid (show Below w.heap.size w w1 from hb1)
  have HBX1 := Lib.hid (HB1.out.alloc HB1.out.size (.cells #[.int .i64 1, .int .i64 a, .string E, .bool false] 28))
  have P0_1 := Lib.hid (World.alloc_heap_new w1 (.cells #[.int .i64 1, .int .i64 a, .string E, .bool false] 28))
  clear hb1
  go_wp2_with fail
  refine (num30 b _).mono ?_
  rintro e w2 ⟨rfl, hb2⟩
  have HB2 := Lib.hid (show Below w.heap.size w w2 from HBX1.out.trans (hb2.mono HBX1.out.size))
  have Q0_2 := Lib.hid ((hb2.block w1.heap.size (Array.getElem?_eq_some_iff.1 P0_1.out).1).trans P0_1.out)
  have HBX2 := Lib.hid (HB2.out.alloc HB2.out.size (.cells #[.int .i64 1, .int .i64 b, .string E, .bool false] 28))
  have P0_2 := Lib.hid (((World.grownBy_alloc w2 (.cells #[.int .i64 1, .int .i64 b, .string E, .bool false] 28) none).block w1.heap.size (Array.getElem?_eq_some_iff.1 Q0_2.out).1 (by simp)).trans Q0_2.out)
  have P1_2 := Lib.hid (World.alloc_heap_new w2 (.cells #[.int .i64 1, .int .i64 b, .string E, .bool false] 28))
  have c0_0 := cell_fr (i := 0) P0_2.out rfl
  have c0_1 := cell_fr (i := 1) P0_2.out rfl
  have c0_2 := cell_fr (i := 2) P0_2.out rfl
  have c0_3 := cell_fr (i := 3) P0_2.out rfl
  have c1_0 := cell_fr (i := 0) P1_2.out rfl
  have c1_1 := cell_fr (i := 1) P1_2.out rfl
  have c1_2 := cell_fr (i := 2) P1_2.out rfl
  have c1_3 := cell_fr (i := 3) P1_2.out rfl
  clear hb2
  go_wp2_with fail
  clear c0_0 c0_1 c0_2 c0_3 c1_0 c1_1 c1_2 c1_3
  refine (add_raw 1 a E false 1 b E false 1 c E false sDone _ HADD.out).mono ?_
  rintro e w3 ⟨rfl, hb3⟩
  have HB3 := Lib.hid (show Below w.heap.size w w3 from HBX2.out.trans (hb3.mono HBX2.out.size))
  have Q0_3 := Lib.hid ((hb3.block w1.heap.size (Array.getElem?_eq_some_iff.1 P0_2.out).1).trans P0_2.out)
  have Q1_3 := Lib.hid ((hb3.block w2.heap.size (Array.getElem?_eq_some_iff.1 P1_2.out).1).trans P1_2.out)
  have HBX3 := Lib.hid (HB3.out.alloc HB3.out.size (.cells #[.int .i64 1, .int .i64 c, .string E, .bool false] 28))
  have P0_3 := Lib.hid (((World.grownBy_alloc w3 (.cells #[.int .i64 1, .int .i64 c, .string E, .bool false] 28) none).block w1.heap.size (Array.getElem?_eq_some_iff.1 Q0_3.out).1 (by simp)).trans Q0_3.out)
  have P1_3 := Lib.hid (((World.grownBy_alloc w3 (.cells #[.int .i64 1, .int .i64 c, .string E, .bool false] 28) none).block w2.heap.size (Array.getElem?_eq_some_iff.1 Q1_3.out).1 (by simp)).trans Q1_3.out)
  have P2_3 := Lib.hid (World.alloc_heap_new w3 (.cells #[.int .i64 1, .int .i64 c, .string E, .bool false] 28))
  have c1_0 := cell_fr (i := 0) P1_3.out rfl
  have c1_1 := cell_fr (i := 1) P1_3.out rfl
  have c1_2 := cell_fr (i := 2) P1_3.out rfl
  have c1_3 := cell_fr (i := 3) P1_3.out rfl
  have c2_0 := cell_fr (i := 0) P2_3.out rfl
  have c2_1 := cell_fr (i := 1) P2_3.out rfl
  have c2_2 := cell_fr (i := 2) P2_3.out rfl
  have c2_3 := cell_fr (i := 3) P2_3.out rfl
  clear hb3
  go_wp2_with fail
  clear c1_0 c1_1 c1_2 c1_3 c2_0 c2_1 c2_2 c2_3
  refine (sub_raw 1 c E false 1 b E false 1 a E false sDone _ HBACK.out).mono ?_
  rintro e w4 ⟨rfl, hb4⟩
  have HB4 := Lib.hid (show Below w.heap.size w w4 from HBX3.out.trans (hb4.mono HBX3.out.size))
  have Q0_4 := Lib.hid ((hb4.block w1.heap.size (Array.getElem?_eq_some_iff.1 P0_3.out).1).trans P0_3.out)
  have Q1_4 := Lib.hid ((hb4.block w2.heap.size (Array.getElem?_eq_some_iff.1 P1_3.out).1).trans P1_3.out)
  have Q2_4 := Lib.hid ((hb4.block w3.heap.size (Array.getElem?_eq_some_iff.1 P2_3.out).1).trans P2_3.out)
  have HBX4 := Lib.hid (HB4.out.alloc HB4.out.size (.cells #[.int .i64 1, .int .i64 a, .string E, .bool false] 28))
  have P0_4 := Lib.hid (((World.grownBy_alloc w4 (.cells #[.int .i64 1, .int .i64 a, .string E, .bool false] 28) none).block w1.heap.size (Array.getElem?_eq_some_iff.1 Q0_4.out).1 (by simp)).trans Q0_4.out)
  have P1_4 := Lib.hid (((World.grownBy_alloc w4 (.cells #[.int .i64 1, .int .i64 a, .string E, .bool false] 28) none).block w2.heap.size (Array.getElem?_eq_some_iff.1 Q1_4.out).1 (by simp)).trans Q1_4.out)
  have P2_4 := Lib.hid (((World.grownBy_alloc w4 (.cells #[.int .i64 1, .int .i64 a, .string E, .bool false] 28) none).block w3.heap.size (Array.getElem?_eq_some_iff.1 Q2_4.out).1 (by simp)).trans Q2_4.out)
  have P3_4 := Lib.hid (World.alloc_heap_new w4 (.cells #[.int .i64 1, .int .i64 a, .string E, .bool false] 28))
  have c0_0 := cell_fr (i := 0) P0_4.out rfl
  have c0_1 := cell_fr (i := 1) P0_4.out rfl
  have c0_2 := cell_fr (i := 2) P0_4.out rfl
  have c0_3 := cell_fr (i := 3) P0_4.out rfl
  have c1_0 := cell_fr (i := 0) P1_4.out rfl
  have c1_1 := cell_fr (i := 1) P1_4.out rfl
  have c1_2 := cell_fr (i := 2) P1_4.out rfl
  have c1_3 := cell_fr (i := 3) P1_4.out rfl
  have c3_0 := cell_fr (i := 0) P3_4.out rfl
  have c3_1 := cell_fr (i := 1) P3_4.out rfl
  have c3_2 := cell_fr (i := 2) P3_4.out rfl
  have c3_3 := cell_fr (i := 3) P3_4.out rfl
  clear hb4
  go_wp2_with fail
  clear c0_0 c0_1 c0_2 c0_3 c1_0 c1_1 c1_2 c1_3 c3_0 c3_1 c3_2 c3_3
  refine (div_raw 1 a E false 1 b E false 0 0 E false ⟨#[50, 50, 48, 49, 50]⟩ _ HDIV.out).mono ?_
  rintro e w5 ⟨rfl, hb5⟩
  have HB5 := Lib.hid (show Below w.heap.size w w5 from HBX4.out.trans (hb5.mono HBX4.out.size))
  have Q0_5 := Lib.hid ((hb5.block w1.heap.size (Array.getElem?_eq_some_iff.1 P0_4.out).1).trans P0_4.out)
  have Q1_5 := Lib.hid ((hb5.block w2.heap.size (Array.getElem?_eq_some_iff.1 P1_4.out).1).trans P1_4.out)
  have Q2_5 := Lib.hid ((hb5.block w3.heap.size (Array.getElem?_eq_some_iff.1 P2_4.out).1).trans P2_4.out)
  have Q3_5 := Lib.hid ((hb5.block w4.heap.size (Array.getElem?_eq_some_iff.1 P3_4.out).1).trans P3_4.out)
  have HBX5 := Lib.hid (HB5.out.alloc HB5.out.size (.cells #[.int .i64 0, .int .i64 0, .string E, .bool false] 28))
  have P0_5 := Lib.hid (((World.grownBy_alloc w5 (.cells #[.int .i64 0, .int .i64 0, .string E, .bool false] 28) none).block w1.heap.size (Array.getElem?_eq_some_iff.1 Q0_5.out).1 (by simp)).trans Q0_5.out)
  have P1_5 := Lib.hid (((World.grownBy_alloc w5 (.cells #[.int .i64 0, .int .i64 0, .string E, .bool false] 28) none).block w2.heap.size (Array.getElem?_eq_some_iff.1 Q1_5.out).1 (by simp)).trans Q1_5.out)
  have P2_5 := Lib.hid (((World.grownBy_alloc w5 (.cells #[.int .i64 0, .int .i64 0, .string E, .bool false] 28) none).block w3.heap.size (Array.getElem?_eq_some_iff.1 Q2_5.out).1 (by simp)).trans Q2_5.out)
  have P3_5 := Lib.hid (((World.grownBy_alloc w5 (.cells #[.int .i64 0, .int .i64 0, .string E, .bool false] 28) none).block w4.heap.size (Array.getElem?_eq_some_iff.1 Q3_5.out).1 (by simp)).trans Q3_5.out)
  have P4_5 := Lib.hid (World.alloc_heap_new w5 (.cells #[.int .i64 0, .int .i64 0, .string E, .bool false] 28))
  clear hb5
  go_wp2_with fail
  refine (alive_w _).mono ?_
  rintro e w6 ⟨rfl, hb6⟩
  have HB6 := Lib.hid (show Below w.heap.size w w6 from HBX5.out.trans (hb6.mono HBX5.out.size))
  have Q0_6 := Lib.hid ((hb6.block w1.heap.size (Array.getElem?_eq_some_iff.1 P0_5.out).1).trans P0_5.out)
  have Q1_6 := Lib.hid ((hb6.block w2.heap.size (Array.getElem?_eq_some_iff.1 P1_5.out).1).trans P1_5.out)
  have Q2_6 := Lib.hid ((hb6.block w3.heap.size (Array.getElem?_eq_some_iff.1 P2_5.out).1).trans P2_5.out)
  have Q3_6 := Lib.hid ((hb6.block w4.heap.size (Array.getElem?_eq_some_iff.1 P3_5.out).1).trans P3_5.out)
  have Q4_6 := Lib.hid ((hb6.block w5.heap.size (Array.getElem?_eq_some_iff.1 P4_5.out).1).trans P4_5.out)
  have HBX6 := HB6
  have P0_6 := Q0_6
  have P1_6 := Q1_6
  have P2_6 := Q2_6
  have P3_6 := Q3_6
  have P4_6 := Q4_6
  clear hb6
  go_wp2_with fail
  go_ret
  exact ⟨rfl, HB6.out⟩
set_option maxHeartbeats 2000000 in
set_option maxRecDepth 100000 in
theorem num_no_y (a b c : Int) (w : World) (HADD : Hid (liftF 1 1 1 (addF a b) = (1, c, E, false, sDone))) (HBACK : Hid (liftF 1 1 1 (subF c b) = (1, a, E, false, sDone))) (HB : Hid (b = -1)) (HDIV : Hid (liftF 1 1 1 (divF a b) = (0, 0, E, false, sRange))) : Calls Tryd.prog 8 #[.int .i64 a, .int .i64 b] w fun e w' => e = .returned (.bool true) ∧ Below w.heap.size w w' := by
  have t1 : (b == 0) = false := by rw [HB.out]; rfl
  have t2 : (b == -1) = true := beq_iff_eq.2 HB.out
  go_enter Tryd.func8, Tryd.ntmps8
  go_wp2_with fail
  refine (num30 a _).mono ?_
  rintro e w1 ⟨rfl, hb1⟩
  have HB1 := Lib.hid (show Below w.heap.size w w1 from hb1)
  have HBX1 := Lib.hid (HB1.out.alloc HB1.out.size (.cells #[.int .i64 1, .int .i64 a, .string E, .bool false] 28))
  have P0_1 := Lib.hid (World.alloc_heap_new w1 (.cells #[.int .i64 1, .int .i64 a, .string E, .bool false] 28))
  clear hb1
  go_wp2_with fail
  refine (num30 b _).mono ?_
  rintro e w2 ⟨rfl, hb2⟩
  have HB2 := Lib.hid (show Below w.heap.size w w2 from HBX1.out.trans (hb2.mono HBX1.out.size))
  have Q0_2 := Lib.hid ((hb2.block w1.heap.size (Array.getElem?_eq_some_iff.1 P0_1.out).1).trans P0_1.out)
  have HBX2 := Lib.hid (HB2.out.alloc HB2.out.size (.cells #[.int .i64 1, .int .i64 b, .string E, .bool false] 28))
  have P0_2 := Lib.hid (((World.grownBy_alloc w2 (.cells #[.int .i64 1, .int .i64 b, .string E, .bool false] 28) none).block w1.heap.size (Array.getElem?_eq_some_iff.1 Q0_2.out).1 (by simp)).trans Q0_2.out)
  have P1_2 := Lib.hid (World.alloc_heap_new w2 (.cells #[.int .i64 1, .int .i64 b, .string E, .bool false] 28))
  have c0_0 := cell_fr (i := 0) P0_2.out rfl
  have c0_1 := cell_fr (i := 1) P0_2.out rfl
  have c0_2 := cell_fr (i := 2) P0_2.out rfl
  have c0_3 := cell_fr (i := 3) P0_2.out rfl
  have c1_0 := cell_fr (i := 0) P1_2.out rfl
  have c1_1 := cell_fr (i := 1) P1_2.out rfl
  have c1_2 := cell_fr (i := 2) P1_2.out rfl
  have c1_3 := cell_fr (i := 3) P1_2.out rfl
  clear hb2
  go_wp2_with fail
  clear c0_0 c0_1 c0_2 c0_3 c1_0 c1_1 c1_2 c1_3
  refine (add_raw 1 a E false 1 b E false 1 c E false sDone _ HADD.out).mono ?_
  rintro e w3 ⟨rfl, hb3⟩
  have HB3 := Lib.hid (show Below w.heap.size w w3 from HBX2.out.trans (hb3.mono HBX2.out.size))
  have Q0_3 := Lib.hid ((hb3.block w1.heap.size (Array.getElem?_eq_some_iff.1 P0_2.out).1).trans P0_2.out)
  have Q1_3 := Lib.hid ((hb3.block w2.heap.size (Array.getElem?_eq_some_iff.1 P1_2.out).1).trans P1_2.out)
  have HBX3 := Lib.hid (HB3.out.alloc HB3.out.size (.cells #[.int .i64 1, .int .i64 c, .string E, .bool false] 28))
  have P0_3 := Lib.hid (((World.grownBy_alloc w3 (.cells #[.int .i64 1, .int .i64 c, .string E, .bool false] 28) none).block w1.heap.size (Array.getElem?_eq_some_iff.1 Q0_3.out).1 (by simp)).trans Q0_3.out)
  have P1_3 := Lib.hid (((World.grownBy_alloc w3 (.cells #[.int .i64 1, .int .i64 c, .string E, .bool false] 28) none).block w2.heap.size (Array.getElem?_eq_some_iff.1 Q1_3.out).1 (by simp)).trans Q1_3.out)
  have P2_3 := Lib.hid (World.alloc_heap_new w3 (.cells #[.int .i64 1, .int .i64 c, .string E, .bool false] 28))
  have c1_0 := cell_fr (i := 0) P1_3.out rfl
  have c1_1 := cell_fr (i := 1) P1_3.out rfl
  have c1_2 := cell_fr (i := 2) P1_3.out rfl
  have c1_3 := cell_fr (i := 3) P1_3.out rfl
  have c2_0 := cell_fr (i := 0) P2_3.out rfl
  have c2_1 := cell_fr (i := 1) P2_3.out rfl
  have c2_2 := cell_fr (i := 2) P2_3.out rfl
  have c2_3 := cell_fr (i := 3) P2_3.out rfl
  clear hb3
  go_wp2_with fail
  clear c1_0 c1_1 c1_2 c1_3 c2_0 c2_1 c2_2 c2_3
  refine (sub_raw 1 c E false 1 b E false 1 a E false sDone _ HBACK.out).mono ?_
  rintro e w4 ⟨rfl, hb4⟩
  have HB4 := Lib.hid (show Below w.heap.size w w4 from HBX3.out.trans (hb4.mono HBX3.out.size))
  have Q0_4 := Lib.hid ((hb4.block w1.heap.size (Array.getElem?_eq_some_iff.1 P0_3.out).1).trans P0_3.out)
  have Q1_4 := Lib.hid ((hb4.block w2.heap.size (Array.getElem?_eq_some_iff.1 P1_3.out).1).trans P1_3.out)
  have Q2_4 := Lib.hid ((hb4.block w3.heap.size (Array.getElem?_eq_some_iff.1 P2_3.out).1).trans P2_3.out)
  have HBX4 := Lib.hid (HB4.out.alloc HB4.out.size (.cells #[.int .i64 1, .int .i64 a, .string E, .bool false] 28))
  have P0_4 := Lib.hid (((World.grownBy_alloc w4 (.cells #[.int .i64 1, .int .i64 a, .string E, .bool false] 28) none).block w1.heap.size (Array.getElem?_eq_some_iff.1 Q0_4.out).1 (by simp)).trans Q0_4.out)
  have P1_4 := Lib.hid (((World.grownBy_alloc w4 (.cells #[.int .i64 1, .int .i64 a, .string E, .bool false] 28) none).block w2.heap.size (Array.getElem?_eq_some_iff.1 Q1_4.out).1 (by simp)).trans Q1_4.out)
  have P2_4 := Lib.hid (((World.grownBy_alloc w4 (.cells #[.int .i64 1, .int .i64 a, .string E, .bool false] 28) none).block w3.heap.size (Array.getElem?_eq_some_iff.1 Q2_4.out).1 (by simp)).trans Q2_4.out)
  have P3_4 := Lib.hid (World.alloc_heap_new w4 (.cells #[.int .i64 1, .int .i64 a, .string E, .bool false] 28))
  have c0_0 := cell_fr (i := 0) P0_4.out rfl
  have c0_1 := cell_fr (i := 1) P0_4.out rfl
  have c0_2 := cell_fr (i := 2) P0_4.out rfl
  have c0_3 := cell_fr (i := 3) P0_4.out rfl
  have c1_0 := cell_fr (i := 0) P1_4.out rfl
  have c1_1 := cell_fr (i := 1) P1_4.out rfl
  have c1_2 := cell_fr (i := 2) P1_4.out rfl
  have c1_3 := cell_fr (i := 3) P1_4.out rfl
  have c3_0 := cell_fr (i := 0) P3_4.out rfl
  have c3_1 := cell_fr (i := 1) P3_4.out rfl
  have c3_2 := cell_fr (i := 2) P3_4.out rfl
  have c3_3 := cell_fr (i := 3) P3_4.out rfl
  clear hb4
  go_wp2_with fail
  clear c0_0 c0_1 c0_2 c0_3 c1_0 c1_1 c1_2 c1_3 c3_0 c3_1 c3_2 c3_3
  refine (div_raw 1 a E false 1 b E false 0 0 E false sRange _ HDIV.out).mono ?_
  rintro e w5 ⟨rfl, hb5⟩
  have HB5 := Lib.hid (show Below w.heap.size w w5 from HBX4.out.trans (hb5.mono HBX4.out.size))
  have Q0_5 := Lib.hid ((hb5.block w1.heap.size (Array.getElem?_eq_some_iff.1 P0_4.out).1).trans P0_4.out)
  have Q1_5 := Lib.hid ((hb5.block w2.heap.size (Array.getElem?_eq_some_iff.1 P1_4.out).1).trans P1_4.out)
  have Q2_5 := Lib.hid ((hb5.block w3.heap.size (Array.getElem?_eq_some_iff.1 P2_4.out).1).trans P2_4.out)
  have Q3_5 := Lib.hid ((hb5.block w4.heap.size (Array.getElem?_eq_some_iff.1 P3_4.out).1).trans P3_4.out)
  have HBX5 := Lib.hid (HB5.out.alloc HB5.out.size (.cells #[.int .i64 0, .int .i64 0, .string E, .bool false] 28))
  have P0_5 := Lib.hid (((World.grownBy_alloc w5 (.cells #[.int .i64 0, .int .i64 0, .string E, .bool false] 28) none).block w1.heap.size (Array.getElem?_eq_some_iff.1 Q0_5.out).1 (by simp)).trans Q0_5.out)
  have P1_5 := Lib.hid (((World.grownBy_alloc w5 (.cells #[.int .i64 0, .int .i64 0, .string E, .bool false] 28) none).block w2.heap.size (Array.getElem?_eq_some_iff.1 Q1_5.out).1 (by simp)).trans Q1_5.out)
  have P2_5 := Lib.hid (((World.grownBy_alloc w5 (.cells #[.int .i64 0, .int .i64 0, .string E, .bool false] 28) none).block w3.heap.size (Array.getElem?_eq_some_iff.1 Q2_5.out).1 (by simp)).trans Q2_5.out)
  have P3_5 := Lib.hid (((World.grownBy_alloc w5 (.cells #[.int .i64 0, .int .i64 0, .string E, .bool false] 28) none).block w4.heap.size (Array.getElem?_eq_some_iff.1 Q3_5.out).1 (by simp)).trans Q3_5.out)
  have P4_5 := Lib.hid (World.alloc_heap_new w5 (.cells #[.int .i64 0, .int .i64 0, .string E, .bool false] 28))
  clear hb5
  go_wp2_with fail
  refine (alive_w _).mono ?_
  rintro e w6 ⟨rfl, hb6⟩
  have HB6 := Lib.hid (show Below w.heap.size w w6 from HBX5.out.trans (hb6.mono HBX5.out.size))
  have Q0_6 := Lib.hid ((hb6.block w1.heap.size (Array.getElem?_eq_some_iff.1 P0_5.out).1).trans P0_5.out)
  have Q1_6 := Lib.hid ((hb6.block w2.heap.size (Array.getElem?_eq_some_iff.1 P1_5.out).1).trans P1_5.out)
  have Q2_6 := Lib.hid ((hb6.block w3.heap.size (Array.getElem?_eq_some_iff.1 P2_5.out).1).trans P2_5.out)
  have Q3_6 := Lib.hid ((hb6.block w4.heap.size (Array.getElem?_eq_some_iff.1 P3_5.out).1).trans P3_5.out)
  have Q4_6 := Lib.hid ((hb6.block w5.heap.size (Array.getElem?_eq_some_iff.1 P4_5.out).1).trans P4_5.out)
  have HBX6 := HB6
  have P0_6 := Q0_6
  have P1_6 := Q1_6
  have P2_6 := Q2_6
  have P3_6 := Q3_6
  have P4_6 := Q4_6
  clear hb6
  go_wp2_with fail
  go_ret
  exact ⟨rfl, HB6.out⟩
set_option maxHeartbeats 2000000 in
set_option maxRecDepth 100000 in
theorem num_rz_y (a b c q p r : Int) (w : World) (HADD : Hid (liftF 1 1 1 (addF a b) = (1, c, E, false, sDone))) (HBACK : Hid (liftF 1 1 1 (subF c b) = (1, a, E, false, sDone))) (HDIV : Hid (liftF 1 1 1 (divF a b) = (1, q, E, false, sDone))) (HFQ : Hid (Fit q)) (HFB : Hid (Fit b)) (HMUL : Hid (liftF 1 1 1 (mulF q b) = (1, p, E, false, sDone))) (HSUB : Hid (liftF 1 1 1 (subF a p) = (1, r, E, false, sDone))) (t1 : (r == 0) = true) : Calls Tryd.prog 8 #[.int .i64 a, .int .i64 b] w fun e w' => e = .returned (.bool true) ∧ Below w.heap.size w w' := by
  go_enter Tryd.func8, Tryd.ntmps8
  go_wp2_with fail
  refine (num30 a _).mono ?_
  rintro e w1 ⟨rfl, hb1⟩
  have HB1 := Lib.hid (show Below w.heap.size w w1 from hb1)
  have HBX1 := Lib.hid (HB1.out.alloc HB1.out.size (.cells #[.int .i64 1, .int .i64 a, .string E, .bool false] 28))
  have P0_1 := Lib.hid (World.alloc_heap_new w1 (.cells #[.int .i64 1, .int .i64 a, .string E, .bool false] 28))
  clear hb1
  go_wp2_with fail
  refine (num30 b _).mono ?_
  rintro e w2 ⟨rfl, hb2⟩
  have HB2 := Lib.hid (show Below w.heap.size w w2 from HBX1.out.trans (hb2.mono HBX1.out.size))
  have Q0_2 := Lib.hid ((hb2.block w1.heap.size (Array.getElem?_eq_some_iff.1 P0_1.out).1).trans P0_1.out)
  have HBX2 := Lib.hid (HB2.out.alloc HB2.out.size (.cells #[.int .i64 1, .int .i64 b, .string E, .bool false] 28))
  have P0_2 := Lib.hid (((World.grownBy_alloc w2 (.cells #[.int .i64 1, .int .i64 b, .string E, .bool false] 28) none).block w1.heap.size (Array.getElem?_eq_some_iff.1 Q0_2.out).1 (by simp)).trans Q0_2.out)
  have P1_2 := Lib.hid (World.alloc_heap_new w2 (.cells #[.int .i64 1, .int .i64 b, .string E, .bool false] 28))
  have c0_0 := cell_fr (i := 0) P0_2.out rfl
  have c0_1 := cell_fr (i := 1) P0_2.out rfl
  have c0_2 := cell_fr (i := 2) P0_2.out rfl
  have c0_3 := cell_fr (i := 3) P0_2.out rfl
  have c1_0 := cell_fr (i := 0) P1_2.out rfl
  have c1_1 := cell_fr (i := 1) P1_2.out rfl
  have c1_2 := cell_fr (i := 2) P1_2.out rfl
  have c1_3 := cell_fr (i := 3) P1_2.out rfl
  clear hb2
  go_wp2_with fail
  clear c0_0 c0_1 c0_2 c0_3 c1_0 c1_1 c1_2 c1_3
  refine (add_raw 1 a E false 1 b E false 1 c E false sDone _ HADD.out).mono ?_
  rintro e w3 ⟨rfl, hb3⟩
  have HB3 := Lib.hid (show Below w.heap.size w w3 from HBX2.out.trans (hb3.mono HBX2.out.size))
  have Q0_3 := Lib.hid ((hb3.block w1.heap.size (Array.getElem?_eq_some_iff.1 P0_2.out).1).trans P0_2.out)
  have Q1_3 := Lib.hid ((hb3.block w2.heap.size (Array.getElem?_eq_some_iff.1 P1_2.out).1).trans P1_2.out)
  have HBX3 := Lib.hid (HB3.out.alloc HB3.out.size (.cells #[.int .i64 1, .int .i64 c, .string E, .bool false] 28))
  have P0_3 := Lib.hid (((World.grownBy_alloc w3 (.cells #[.int .i64 1, .int .i64 c, .string E, .bool false] 28) none).block w1.heap.size (Array.getElem?_eq_some_iff.1 Q0_3.out).1 (by simp)).trans Q0_3.out)
  have P1_3 := Lib.hid (((World.grownBy_alloc w3 (.cells #[.int .i64 1, .int .i64 c, .string E, .bool false] 28) none).block w2.heap.size (Array.getElem?_eq_some_iff.1 Q1_3.out).1 (by simp)).trans Q1_3.out)
  have P2_3 := Lib.hid (World.alloc_heap_new w3 (.cells #[.int .i64 1, .int .i64 c, .string E, .bool false] 28))
  have c1_0 := cell_fr (i := 0) P1_3.out rfl
  have c1_1 := cell_fr (i := 1) P1_3.out rfl
  have c1_2 := cell_fr (i := 2) P1_3.out rfl
  have c1_3 := cell_fr (i := 3) P1_3.out rfl
  have c2_0 := cell_fr (i := 0) P2_3.out rfl
  have c2_1 := cell_fr (i := 1) P2_3.out rfl
  have c2_2 := cell_fr (i := 2) P2_3.out rfl
  have c2_3 := cell_fr (i := 3) P2_3.out rfl
  clear hb3
  go_wp2_with fail
  clear c1_0 c1_1 c1_2 c1_3 c2_0 c2_1 c2_2 c2_3
  refine (sub_raw 1 c E false 1 b E false 1 a E false sDone _ HBACK.out).mono ?_
  rintro e w4 ⟨rfl, hb4⟩
  have HB4 := Lib.hid (show Below w.heap.size w w4 from HBX3.out.trans (hb4.mono HBX3.out.size))
  have Q0_4 := Lib.hid ((hb4.block w1.heap.size (Array.getElem?_eq_some_iff.1 P0_3.out).1).trans P0_3.out)
  have Q1_4 := Lib.hid ((hb4.block w2.heap.size (Array.getElem?_eq_some_iff.1 P1_3.out).1).trans P1_3.out)
  have Q2_4 := Lib.hid ((hb4.block w3.heap.size (Array.getElem?_eq_some_iff.1 P2_3.out).1).trans P2_3.out)
  have HBX4 := Lib.hid (HB4.out.alloc HB4.out.size (.cells #[.int .i64 1, .int .i64 a, .string E, .bool false] 28))
  have P0_4 := Lib.hid (((World.grownBy_alloc w4 (.cells #[.int .i64 1, .int .i64 a, .string E, .bool false] 28) none).block w1.heap.size (Array.getElem?_eq_some_iff.1 Q0_4.out).1 (by simp)).trans Q0_4.out)
  have P1_4 := Lib.hid (((World.grownBy_alloc w4 (.cells #[.int .i64 1, .int .i64 a, .string E, .bool false] 28) none).block w2.heap.size (Array.getElem?_eq_some_iff.1 Q1_4.out).1 (by simp)).trans Q1_4.out)
  have P2_4 := Lib.hid (((World.grownBy_alloc w4 (.cells #[.int .i64 1, .int .i64 a, .string E, .bool false] 28) none).block w3.heap.size (Array.getElem?_eq_some_iff.1 Q2_4.out).1 (by simp)).trans Q2_4.out)
  have P3_4 := Lib.hid (World.alloc_heap_new w4 (.cells #[.int .i64 1, .int .i64 a, .string E, .bool false] 28))
  have c0_0 := cell_fr (i := 0) P0_4.out rfl
  have c0_1 := cell_fr (i := 1) P0_4.out rfl
  have c0_2 := cell_fr (i := 2) P0_4.out rfl
  have c0_3 := cell_fr (i := 3) P0_4.out rfl
  have c1_0 := cell_fr (i := 0) P1_4.out rfl
  have c1_1 := cell_fr (i := 1) P1_4.out rfl
  have c1_2 := cell_fr (i := 2) P1_4.out rfl
  have c1_3 := cell_fr (i := 3) P1_4.out rfl
  have c3_0 := cell_fr (i := 0) P3_4.out rfl
  have c3_1 := cell_fr (i := 1) P3_4.out rfl
  have c3_2 := cell_fr (i := 2) P3_4.out rfl
  have c3_3 := cell_fr (i := 3) P3_4.out rfl
  clear hb4
  go_wp2_with fail
  clear c0_0 c0_1 c0_2 c0_3 c1_0 c1_1 c1_2 c1_3 c3_0 c3_1 c3_2 c3_3
  refine (div_raw 1 a E false 1 b E false 1 q E false sDone _ HDIV.out).mono ?_
  rintro e w5 ⟨rfl, hb5⟩
  have HB5 := Lib.hid (show Below w.heap.size w w5 from HBX4.out.trans (hb5.mono HBX4.out.size))
  have Q0_5 := Lib.hid ((hb5.block w1.heap.size (Array.getElem?_eq_some_iff.1 P0_4.out).1).trans P0_4.out)
  have Q1_5 := Lib.hid ((hb5.block w2.heap.size (Array.getElem?_eq_some_iff.1 P1_4.out).1).trans P1_4.out)
  have Q2_5 := Lib.hid ((hb5.block w3.heap.size (Array.getElem?_eq_some_iff.1 P2_4.out).1).trans P2_4.out)
  have Q3_5 := Lib.hid ((hb5.block w4.heap.size (Array.getElem?_eq_some_iff.1 P3_4.out).1).trans P3_4.out)
  have HBX5 := Lib.hid (HB5.out.alloc HB5.out.size (.cells #[.int .i64 1, .int .i64 q, .string E, .bool false] 28))
  have P0_5 := Lib.hid (((World.grownBy_alloc w5 (.cells #[.int .i64 1, .int .i64 q, .string E, .bool false] 28) none).block w1.heap.size (Array.getElem?_eq_some_iff.1 Q0_5.out).1 (by simp)).trans Q0_5.out)
  have P1_5 := Lib.hid (((World.grownBy_alloc w5 (.cells #[.int .i64 1, .int .i64 q, .string E, .bool false] 28) none).block w2.heap.size (Array.getElem?_eq_some_iff.1 Q1_5.out).1 (by simp)).trans Q1_5.out)
  have P2_5 := Lib.hid (((World.grownBy_alloc w5 (.cells #[.int .i64 1, .int .i64 q, .string E, .bool false] 28) none).block w3.heap.size (Array.getElem?_eq_some_iff.1 Q2_5.out).1 (by simp)).trans Q2_5.out)
  have P3_5 := Lib.hid (((World.grownBy_alloc w5 (.cells #[.int .i64 1, .int .i64 q, .string E, .bool false] 28) none).block w4.heap.size (Array.getElem?_eq_some_iff.1 Q3_5.out).1 (by simp)).trans Q3_5.out)
  have P4_5 := Lib.hid (World.alloc_heap_new w5 (.cells #[.int .i64 1, .int .i64 q, .string E, .bool false] 28))
  have c4_0 := cell_fr (i := 0) P4_5.out rfl
  have c4_1 := cell_fr (i := 1) P4_5.out rfl
  have c4_2 := cell_fr (i := 2) P4_5.out rfl
  have c4_3 := cell_fr (i := 3) P4_5.out rfl
  have c1_0 := cell_fr (i := 0) P1_5.out rfl
  have c1_1 := cell_fr (i := 1) P1_5.out rfl
  have c1_2 := cell_fr (i := 2) P1_5.out rfl
  have c1_3 := cell_fr (i := 3) P1_5.out rfl
  clear hb5
  go_wp2_with fail
  clear c4_0 c4_1 c4_2 c4_3 c1_0 c1_1 c1_2 c1_3
  refine (mul_raw 1 q E false 1 b E false 1 p E false sDone _ HFQ.out HFB.out HMUL.out).mono ?_
  rintro e w6 ⟨rfl, hb6⟩
  have HB6 := Lib.hid (show Below w.heap.size w w6 from HBX5.out.trans (hb6.mono HBX5.out.size))
  have Q0_6 := Lib.hid ((hb6.block w1.heap.size (Array.getElem?_eq_some_iff.1 P0_5.out).1).trans P0_5.out)
  have Q1_6 := Lib.hid ((hb6.block w2.heap.size (Array.getElem?_eq_some_iff.1 P1_5.out).1).trans P1_5.out)
  have Q2_6 := Lib.hid ((hb6.block w3.heap.size (Array.getElem?_eq_some_iff.1 P2_5.out).1).trans P2_5.out)
  have Q3_6 := Lib.hid ((hb6.block w4.heap.size (Array.getElem?_eq_some_iff.1 P3_5.out).1).trans P3_5.out)
  have Q4_6 := Lib.hid ((hb6.block w5.heap.size (Array.getElem?_eq_some_iff.1 P4_5.out).1).trans P4_5.out)
  have HBX6 := Lib.hid (HB6.out.alloc HB6.out.size (.cells #[.int .i64 1, .int .i64 p, .string E, .bool false] 28))
  have P0_6 := Lib.hid (((World.grownBy_alloc w6 (.cells #[.int .i64 1, .int .i64 p, .string E, .bool false] 28) none).block w1.heap.size (Array.getElem?_eq_some_iff.1 Q0_6.out).1 (by simp)).trans Q0_6.out)
  have P1_6 := Lib.hid (((World.grownBy_alloc w6 (.cells #[.int .i64 1, .int .i64 p, .string E, .bool false] 28) none).block w2.heap.size (Array.getElem?_eq_some_iff.1 Q1_6.out).1 (by simp)).trans Q1_6.out)
  have P2_6 := Lib.hid (((World.grownBy_alloc w6 (.cells #[.int .i64 1, .int .i64 p, .string E, .bool false] 28) none).block w3.heap.size (Array.getElem?_eq_some_iff.1 Q2_6.out).1 (by simp)).trans Q2_6.out)
  have P3_6 := Lib.hid (((World.grownBy_alloc w6 (.cells #[.int .i64 1, .int .i64 p, .string E, .bool false] 28) none).block w4.heap.size (Array.getElem?_eq_some_iff.1 Q3_6.out).1 (by simp)).trans Q3_6.out)
  have P4_6 := Lib.hid (((World.grownBy_alloc w6 (.cells #[.int .i64 1, .int .i64 p, .string E, .bool false] 28) none).block w5.heap.size (Array.getElem?_eq_some_iff.1 Q4_6.out).1 (by simp)).trans Q4_6.out)
  have P5_6 := Lib.hid (World.alloc_heap_new w6 (.cells #[.int .i64 1, .int .i64 p, .string E, .bool false] 28))
  have c0_0 := cell_fr (i := 0) P0_6.out rfl
  have c0_1 := cell_fr (i := 1) P0_6.out rfl
  have c0_2 := cell_fr (i := 2) P0_6.out rfl
  have c0_3 := cell_fr (i := 3) P0_6.out rfl
  have c5_0 := cell_fr (i := 0) P5_6.out rfl
  have c5_1 := cell_fr (i := 1) P5_6.out rfl
  have c5_2 := cell_fr (i := 2) P5_6.out rfl
  have c5_3 := cell_fr (i := 3) P5_6.out rfl
  clear hb6
  go_wp2_with fail
  clear c0_0 c0_1 c0_2 c0_3 c5_0 c5_1 c5_2 c5_3
  refine (sub_raw 1 a E false 1 p E false 1 r E false sDone _ HSUB.out).mono ?_
  rintro e w7 ⟨rfl, hb7⟩
  have HB7 := Lib.hid (show Below w.heap.size w w7 from HBX6.out.trans (hb7.mono HBX6.out.size))
  have Q0_7 := Lib.hid ((hb7.block w1.heap.size (Array.getElem?_eq_some_iff.1 P0_6.out).1).trans P0_6.out)
  have Q1_7 := Lib.hid ((hb7.block w2.heap.size (Array.getElem?_eq_some_iff.1 P1_6.out).1).trans P1_6.out)
  have Q2_7 := Lib.hid ((hb7.block w3.heap.size (Array.getElem?_eq_some_iff.1 P2_6.out).1).trans P2_6.out)
  have Q3_7 := Lib.hid ((hb7.block w4.heap.size (Array.getElem?_eq_some_iff.1 P3_6.out).1).trans P3_6.out)
  have Q4_7 := Lib.hid ((hb7.block w5.heap.size (Array.getElem?_eq_some_iff.1 P4_6.out).1).trans P4_6.out)
  have Q5_7 := Lib.hid ((hb7.block w6.heap.size (Array.getElem?_eq_some_iff.1 P5_6.out).1).trans P5_6.out)
  have HBX7 := Lib.hid (HB7.out.alloc HB7.out.size (.cells #[.int .i64 1, .int .i64 r, .string E, .bool false] 28))
  have P0_7 := Lib.hid (((World.grownBy_alloc w7 (.cells #[.int .i64 1, .int .i64 r, .string E, .bool false] 28) none).block w1.heap.size (Array.getElem?_eq_some_iff.1 Q0_7.out).1 (by simp)).trans Q0_7.out)
  have P1_7 := Lib.hid (((World.grownBy_alloc w7 (.cells #[.int .i64 1, .int .i64 r, .string E, .bool false] 28) none).block w2.heap.size (Array.getElem?_eq_some_iff.1 Q1_7.out).1 (by simp)).trans Q1_7.out)
  have P2_7 := Lib.hid (((World.grownBy_alloc w7 (.cells #[.int .i64 1, .int .i64 r, .string E, .bool false] 28) none).block w3.heap.size (Array.getElem?_eq_some_iff.1 Q2_7.out).1 (by simp)).trans Q2_7.out)
  have P3_7 := Lib.hid (((World.grownBy_alloc w7 (.cells #[.int .i64 1, .int .i64 r, .string E, .bool false] 28) none).block w4.heap.size (Array.getElem?_eq_some_iff.1 Q3_7.out).1 (by simp)).trans Q3_7.out)
  have P4_7 := Lib.hid (((World.grownBy_alloc w7 (.cells #[.int .i64 1, .int .i64 r, .string E, .bool false] 28) none).block w5.heap.size (Array.getElem?_eq_some_iff.1 Q4_7.out).1 (by simp)).trans Q4_7.out)
  have P5_7 := Lib.hid (((World.grownBy_alloc w7 (.cells #[.int .i64 1, .int .i64 r, .string E, .bool false] 28) none).block w6.heap.size (Array.getElem?_eq_some_iff.1 Q5_7.out).1 (by simp)).trans Q5_7.out)
  have P6_7 := Lib.hid (World.alloc_heap_new w7 (.cells #[.int .i64 1, .int .i64 r, .string E, .bool false] 28))
  have c6_0 := cell_fr (i := 0) P6_7.out rfl
  have c6_1 := cell_fr (i := 1) P6_7.out rfl
  have c6_2 := cell_fr (i := 2) P6_7.out rfl
  have c6_3 := cell_fr (i := 3) P6_7.out rfl
  clear hb7
  go_wp2_with fail
  clear c6_0 c6_1 c6_2 c6_3
  refine (alive_w _).mono ?_
  rintro e w8 ⟨rfl, hb8⟩
  have HB8 := Lib.hid (show Below w.heap.size w w8 from HBX7.out.trans (hb8.mono HBX7.out.size))
  have Q0_8 := Lib.hid ((hb8.block w1.heap.size (Array.getElem?_eq_some_iff.1 P0_7.out).1).trans P0_7.out)
  have Q1_8 := Lib.hid ((hb8.block w2.heap.size (Array.getElem?_eq_some_iff.1 P1_7.out).1).trans P1_7.out)
  have Q2_8 := Lib.hid ((hb8.block w3.heap.size (Array.getElem?_eq_some_iff.1 P2_7.out).1).trans P2_7.out)
  have Q3_8 := Lib.hid ((hb8.block w4.heap.size (Array.getElem?_eq_some_iff.1 P3_7.out).1).trans P3_7.out)
  have Q4_8 := Lib.hid ((hb8.block w5.heap.size (Array.getElem?_eq_some_iff.1 P4_7.out).1).trans P4_7.out)
  have Q5_8 := Lib.hid ((hb8.block w6.heap.size (Array.getElem?_eq_some_iff.1 P5_7.out).1).trans P5_7.out)
  have Q6_8 := Lib.hid ((hb8.block w7.heap.size (Array.getElem?_eq_some_iff.1 P6_7.out).1).trans P6_7.out)
  have HBX8 := HB8
  have P0_8 := Q0_8
  have P1_8 := Q1_8
  have P2_8 := Q2_8
  have P3_8 := Q3_8
  have P4_8 := Q4_8
  have P5_8 := Q5_8
  have P6_8 := Q6_8
  clear hb8
  go_wp2_with fail
  go_ret
  exact ⟨rfl, HB8.out⟩
set_option maxHeartbeats 2000000 in
set_option maxRecDepth 100000 in
theorem num_p1_y (a b c q p r : Int) (w : World) (HADD : Hid (liftF 1 1 1 (addF a b) = (1, c, E, false, sDone))) (HBACK : Hid (liftF 1 1 1 (subF c b) = (1, a, E, false, sDone))) (HDIV : Hid (liftF 1 1 1 (divF a b) = (1, q, E, false, sDone))) (HFQ : Hid (Fit q)) (HFB : Hid (Fit b)) (HMUL : Hid (liftF 1 1 1 (mulF q b) = (1, p, E, false, sDone))) (HSUB : Hid (liftF 1 1 1 (subF a p) = (1, r, E, false, sDone))) (t1 : (r == 0) = false) (t2 : decide (0 < r) = true) (t3 : decide (0 < a) = true) (t4 : decide (r < b) = true) : Calls Tryd.prog 8 #[.int .i64 a, .int .i64 b] w fun e w' => e = .returned (.bool true) ∧ Below w.heap.size w w' := by
  go_enter Tryd.func8, Tryd.ntmps8
  go_wp2_with fail
  refine (num30 a _).mono ?_
  rintro e w1 ⟨rfl, hb1⟩
  have HB1 := Lib.hid (show Below w.heap.size w w1 from hb1)
  have HBX1 := Lib.hid (HB1.out.alloc HB1.out.size (.cells #[.int .i64 1, .int .i64 a, .string E, .bool false] 28))
  have P0_1 := Lib.hid (World.alloc_heap_new w1 (.cells #[.int .i64 1, .int .i64 a, .string E, .bool false] 28))
  clear hb1
  go_wp2_with fail
  refine (num30 b _).mono ?_
  rintro e w2 ⟨rfl, hb2⟩
  have HB2 := Lib.hid (show Below w.heap.size w w2 from HBX1.out.trans (hb2.mono HBX1.out.size))
  have Q0_2 := Lib.hid ((hb2.block w1.heap.size (Array.getElem?_eq_some_iff.1 P0_1.out).1).trans P0_1.out)
  have HBX2 := Lib.hid (HB2.out.alloc HB2.out.size (.cells #[.int .i64 1, .int .i64 b, .string E, .bool false] 28))
  have P0_2 := Lib.hid (((World.grownBy_alloc w2 (.cells #[.int .i64 1, .int .i64 b, .string E, .bool false] 28) none).block w1.heap.size (Array.getElem?_eq_some_iff.1 Q0_2.out).1 (by simp)).trans Q0_2.out)
  have P1_2 := Lib.hid (World.alloc_heap_new w2 (.cells #[.int .i64 1, .int .i64 b, .string E, .bool false] 28))
  have c0_0 := cell_fr (i := 0) P0_2.out rfl
  have c0_1 := cell_fr (i := 1) P0_2.out rfl
  have c0_2 := cell_fr (i := 2) P0_2.out rfl
  have c0_3 := cell_fr (i := 3) P0_2.out rfl
  have c1_0 := cell_fr (i := 0) P1_2.out rfl
  have c1_1 := cell_fr (i := 1) P1_2.out rfl
  have c1_2 := cell_fr (i := 2) P1_2.out rfl
  have c1_3 := cell_fr (i := 3) P1_2.out rfl
  clear hb2
  go_wp2_with fail
  clear c0_0 c0_1 c0_2 c0_3 c1_0 c1_1 c1_2 c1_3
  refine (add_raw 1 a E false 1 b E false 1 c E false sDone _ HADD.out).mono ?_
  rintro e w3 ⟨rfl, hb3⟩
  have HB3 := Lib.hid (show Below w.heap.size w w3 from HBX2.out.trans (hb3.mono HBX2.out.size))
  have Q0_3 := Lib.hid ((hb3.block w1.heap.size (Array.getElem?_eq_some_iff.1 P0_2.out).1).trans P0_2.out)
  have Q1_3 := Lib.hid ((hb3.block w2.heap.size (Array.getElem?_eq_some_iff.1 P1_2.out).1).trans P1_2.out)
  have HBX3 := Lib.hid (HB3.out.alloc HB3.out.size (.cells #[.int .i64 1, .int .i64 c, .string E, .bool false] 28))
  have P0_3 := Lib.hid (((World.grownBy_alloc w3 (.cells #[.int .i64 1, .int .i64 c, .string E, .bool false] 28) none).block w1.heap.size (Array.getElem?_eq_some_iff.1 Q0_3.out).1 (by simp)).trans Q0_3.out)
  have P1_3 := Lib.hid (((World.grownBy_alloc w3 (.cells #[.int .i64 1, .int .i64 c, .string E, .bool false] 28) none).block w2.heap.size (Array.getElem?_eq_some_iff.1 Q1_3.out).1 (by simp)).trans Q1_3.out)
  have P2_3 := Lib.hid (World.alloc_heap_new w3 (.cells #[.int .i64 1, .int .i64 c, .string E, .bool false] 28))
  have c1_0 := cell_fr (i := 0) P1_3.out rfl
  have c1_1 := cell_fr (i := 1) P1_3.out rfl
  have c1_2 := cell_fr (i := 2) P1_3.out rfl
  have c1_3 := cell_fr (i := 3) P1_3.out rfl
  have c2_0 := cell_fr (i := 0) P2_3.out rfl
  have c2_1 := cell_fr (i := 1) P2_3.out rfl
  have c2_2 := cell_fr (i := 2) P2_3.out rfl
  have c2_3 := cell_fr (i := 3) P2_3.out rfl
  clear hb3
  go_wp2_with fail
  clear c1_0 c1_1 c1_2 c1_3 c2_0 c2_1 c2_2 c2_3
  refine (sub_raw 1 c E false 1 b E false 1 a E false sDone _ HBACK.out).mono ?_
  rintro e w4 ⟨rfl, hb4⟩
  have HB4 := Lib.hid (show Below w.heap.size w w4 from HBX3.out.trans (hb4.mono HBX3.out.size))
  have Q0_4 := Lib.hid ((hb4.block w1.heap.size (Array.getElem?_eq_some_iff.1 P0_3.out).1).trans P0_3.out)
  have Q1_4 := Lib.hid ((hb4.block w2.heap.size (Array.getElem?_eq_some_iff.1 P1_3.out).1).trans P1_3.out)
  have Q2_4 := Lib.hid ((hb4.block w3.heap.size (Array.getElem?_eq_some_iff.1 P2_3.out).1).trans P2_3.out)
  have HBX4 := Lib.hid (HB4.out.alloc HB4.out.size (.cells #[.int .i64 1, .int .i64 a, .string E, .bool false] 28))
  have P0_4 := Lib.hid (((World.grownBy_alloc w4 (.cells #[.int .i64 1, .int .i64 a, .string E, .bool false] 28) none).block w1.heap.size (Array.getElem?_eq_some_iff.1 Q0_4.out).1 (by simp)).trans Q0_4.out)
  have P1_4 := Lib.hid (((World.grownBy_alloc w4 (.cells #[.int .i64 1, .int .i64 a, .string E, .bool false] 28) none).block w2.heap.size (Array.getElem?_eq_some_iff.1 Q1_4.out).1 (by simp)).trans Q1_4.out)
  have P2_4 := Lib.hid (((World.grownBy_alloc w4 (.cells #[.int .i64 1, .int .i64 a, .string E, .bool false] 28) none).block w3.heap.size (Array.getElem?_eq_some_iff.1 Q2_4.out).1 (by simp)).trans Q2_4.out)
  have P3_4 := Lib.hid (World.alloc_heap_new w4 (.cells #[.int .i64 1, .int .i64 a, .string E, .bool false] 28))
  have c0_0 := cell_fr (i := 0) P0_4.out rfl
  have c0_1 := cell_fr (i := 1) P0_4.out rfl
  have c0_2 := cell_fr (i := 2) P0_4.out rfl
  have c0_3 := cell_fr (i := 3) P0_4.out rfl
  have c1_0 := cell_fr (i := 0) P1_4.out rfl
  have c1_1 := cell_fr (i := 1) P1_4.out rfl
  have c1_2 := cell_fr (i := 2) P1_4.out rfl
  have c1_3 := cell_fr (i := 3) P1_4.out rfl
  have c3_0 := cell_fr (i := 0) P3_4.out rfl
  have c3_1 := cell_fr (i := 1) P3_4.out rfl
  have c3_2 := cell_fr (i := 2) P3_4.out rfl
  have c3_3 := cell_fr (i := 3) P3_4.out rfl
  clear hb4
  go_wp2_with fail
  clear c0_0 c0_1 c0_2 c0_3 c1_0 c1_1 c1_2 c1_3 c3_0 c3_1 c3_2 c3_3
  refine (div_raw 1 a E false 1 b E false 1 q E false sDone _ HDIV.out).mono ?_
  rintro e w5 ⟨rfl, hb5⟩
  have HB5 := Lib.hid (show Below w.heap.size w w5 from HBX4.out.trans (hb5.mono HBX4.out.size))
  have Q0_5 := Lib.hid ((hb5.block w1.heap.size (Array.getElem?_eq_some_iff.1 P0_4.out).1).trans P0_4.out)
  have Q1_5 := Lib.hid ((hb5.block w2.heap.size (Array.getElem?_eq_some_iff.1 P1_4.out).1).trans P1_4.out)
  have Q2_5 := Lib.hid ((hb5.block w3.heap.size (Array.getElem?_eq_some_iff.1 P2_4.out).1).trans P2_4.out)
  have Q3_5 := Lib.hid ((hb5.block w4.heap.size (Array.getElem?_eq_some_iff.1 P3_4.out).1).trans P3_4.out)
  have HBX5 := Lib.hid (HB5.out.alloc HB5.out.size (.cells #[.int .i64 1, .int .i64 q, .string E, .bool false] 28))
  have P0_5 := Lib.hid (((World.grownBy_alloc w5 (.cells #[.int .i64 1, .int .i64 q, .string E, .bool false] 28) none).block w1.heap.size (Array.getElem?_eq_some_iff.1 Q0_5.out).1 (by simp)).trans Q0_5.out)
  have P1_5 := Lib.hid (((World.grownBy_alloc w5 (.cells #[.int .i64 1, .int .i64 q, .string E, .bool false] 28) none).block w2.heap.size (Array.getElem?_eq_some_iff.1 Q1_5.out).1 (by simp)).trans Q1_5.out)
  have P2_5 := Lib.hid (((World.grownBy_alloc w5 (.cells #[.int .i64 1, .int .i64 q, .string E, .bool false] 28) none).block w3.heap.size (Array.getElem?_eq_some_iff.1 Q2_5.out).1 (by simp)).trans Q2_5.out)
  have P3_5 := Lib.hid (((World.grownBy_alloc w5 (.cells #[.int .i64 1, .int .i64 q, .string E, .bool false] 28) none).block w4.heap.size (Array.getElem?_eq_some_iff.1 Q3_5.out).1 (by simp)).trans Q3_5.out)
  have P4_5 := Lib.hid (World.alloc_heap_new w5 (.cells #[.int .i64 1, .int .i64 q, .string E, .bool false] 28))
  have c4_0 := cell_fr (i := 0) P4_5.out rfl
  have c4_1 := cell_fr (i := 1) P4_5.out rfl
  have c4_2 := cell_fr (i := 2) P4_5.out rfl
  have c4_3 := cell_fr (i := 3) P4_5.out rfl
  have c1_0 := cell_fr (i := 0) P1_5.out rfl
  have c1_1 := cell_fr (i := 1) P1_5.out rfl
  have c1_2 := cell_fr (i := 2) P1_5.out rfl
  have c1_3 := cell_fr (i := 3) P1_5.out rfl
  clear hb5
  go_wp2_with fail
  clear c4_0 c4_1 c4_2 c4_3 c1_0 c1_1 c1_2 c1_3
  refine (mul_raw 1 q E false 1 b E false 1 p E false sDone _ HFQ.out HFB.out HMUL.out).mono ?_
  rintro e w6 ⟨rfl, hb6⟩
  have HB6 := Lib.hid (show Below w.heap.size w w6 from HBX5.out.trans (hb6.mono HBX5.out.size))
  have Q0_6 := Lib.hid ((hb6.block w1.heap.size (Array.getElem?_eq_some_iff.1 P0_5.out).1).trans P0_5.out)
  have Q1_6 := Lib.hid ((hb6.block w2.heap.size (Array.getElem?_eq_some_iff.1 P1_5.out).1).trans P1_5.out)
  have Q2_6 := Lib.hid ((hb6.block w3.heap.size (Array.getElem?_eq_some_iff.1 P2_5.out).1).trans P2_5.out)
  have Q3_6 := Lib.hid ((hb6.block w4.heap.size (Array.getElem?_eq_some_iff.1 P3_5.out).1).trans P3_5.out)
  have Q4_6 := Lib.hid ((hb6.block w5.heap.size (Array.getElem?_eq_some_iff.1 P4_5.out).1).trans P4_5.out)
  have HBX6 := Lib.hid (HB6.out.alloc HB6.out.size (.cells #[.int .i64 1, .int .i64 p, .string E, .bool false] 28))
  have P0_6 := Lib.hid (((World.grownBy_alloc w6 (.cells #[.int .i64 1, .int .i64 p, .string E, .bool false] 28) none).block w1.heap.size (Array.getElem?_eq_some_iff.1 Q0_6.out).1 (by simp)).trans Q0_6.out)
  have P1_6 := Lib.hid (((World.grownBy_alloc w6 (.cells #[.int .i64 1, .int .i64 p, .string E, .bool false] 28) none).block w2.heap.size (Array.getElem?_eq_some_iff.1 Q1_6.out).1 (by simp)).trans Q1_6.out)
  have P2_6 := Lib.hid (((World.grownBy_alloc w6 (.cells #[.int .i64 1, .int .i64 p, .string E, .bool false] 28) none).block w3.heap.size (Array.getElem?_eq_some_iff.1 Q2_6.out).1 (by simp)).trans Q2_6.out)
  have P3_6 := Lib.hid (((World.grownBy_alloc w6 (.cells #[.int .i64 1, .int .i64 p, .string E, .bool false] 28) none).block w4.heap.size (Array.getElem?_eq_some_iff.1 Q3_6.out).1 (by simp)).trans Q3_6.out)
  have P4_6 := Lib.hid (((World.grownBy_alloc w6 (.cells #[.int .i64 1, .int .i64 p, .string E, .bool false] 28) none).block w5.heap.size (Array.getElem?_eq_some_iff.1 Q4_6.out).1 (by simp)).trans Q4_6.out)
  have P5_6 := Lib.hid (World.alloc_heap_new w6 (.cells #[.int .i64 1, .int .i64 p, .string E, .bool false] 28))
  have c0_0 := cell_fr (i := 0) P0_6.out rfl
  have c0_1 := cell_fr (i := 1) P0_6.out rfl
  have c0_2 := cell_fr (i := 2) P0_6.out rfl
  have c0_3 := cell_fr (i := 3) P0_6.out rfl
  have c5_0 := cell_fr (i := 0) P5_6.out rfl
  have c5_1 := cell_fr (i := 1) P5_6.out rfl
  have c5_2 := cell_fr (i := 2) P5_6.out rfl
  have c5_3 := cell_fr (i := 3) P5_6.out rfl
  clear hb6
  go_wp2_with fail
  clear c0_0 c0_1 c0_2 c0_3 c5_0 c5_1 c5_2 c5_3
  refine (sub_raw 1 a E false 1 p E false 1 r E false sDone _ HSUB.out).mono ?_
  rintro e w7 ⟨rfl, hb7⟩
  have HB7 := Lib.hid (show Below w.heap.size w w7 from HBX6.out.trans (hb7.mono HBX6.out.size))
  have Q0_7 := Lib.hid ((hb7.block w1.heap.size (Array.getElem?_eq_some_iff.1 P0_6.out).1).trans P0_6.out)
  have Q1_7 := Lib.hid ((hb7.block w2.heap.size (Array.getElem?_eq_some_iff.1 P1_6.out).1).trans P1_6.out)
  have Q2_7 := Lib.hid ((hb7.block w3.heap.size (Array.getElem?_eq_some_iff.1 P2_6.out).1).trans P2_6.out)
  have Q3_7 := Lib.hid ((hb7.block w4.heap.size (Array.getElem?_eq_some_iff.1 P3_6.out).1).trans P3_6.out)
  have Q4_7 := Lib.hid ((hb7.block w5.heap.size (Array.getElem?_eq_some_iff.1 P4_6.out).1).trans P4_6.out)
  have Q5_7 := Lib.hid ((hb7.block w6.heap.size (Array.getElem?_eq_some_iff.1 P5_6.out).1).trans P5_6.out)
  have HBX7 := Lib.hid (HB7.out.alloc HB7.out.size (.cells #[.int .i64 1, .int .i64 r, .string E, .bool false] 28))
  have P0_7 := Lib.hid (((World.grownBy_alloc w7 (.cells #[.int .i64 1, .int .i64 r, .string E, .bool false] 28) none).block w1.heap.size (Array.getElem?_eq_some_iff.1 Q0_7.out).1 (by simp)).trans Q0_7.out)
  have P1_7 := Lib.hid (((World.grownBy_alloc w7 (.cells #[.int .i64 1, .int .i64 r, .string E, .bool false] 28) none).block w2.heap.size (Array.getElem?_eq_some_iff.1 Q1_7.out).1 (by simp)).trans Q1_7.out)
  have P2_7 := Lib.hid (((World.grownBy_alloc w7 (.cells #[.int .i64 1, .int .i64 r, .string E, .bool false] 28) none).block w3.heap.size (Array.getElem?_eq_some_iff.1 Q2_7.out).1 (by simp)).trans Q2_7.out)
  have P3_7 := Lib.hid (((World.grownBy_alloc w7 (.cells #[.int .i64 1, .int .i64 r, .string E, .bool false] 28) none).block w4.heap.size (Array.getElem?_eq_some_iff.1 Q3_7.out).1 (by simp)).trans Q3_7.out)
  have P4_7 := Lib.hid (((World.grownBy_alloc w7 (.cells #[.int .i64 1, .int .i64 r, .string E, .bool false] 28) none).block w5.heap.size (Array.getElem?_eq_some_iff.1 Q4_7.out).1 (by simp)).trans Q4_7.out)
  have P5_7 := Lib.hid (((World.grownBy_alloc w7 (.cells #[.int .i64 1, .int .i64 r, .string E, .bool false] 28) none).block w6.heap.size (Array.getElem?_eq_some_iff.1 Q5_7.out).1 (by simp)).trans Q5_7.out)
  have P6_7 := Lib.hid (World.alloc_heap_new w7 (.cells #[.int .i64 1, .int .i64 r, .string E, .bool false] 28))
  have c6_0 := cell_fr (i := 0) P6_7.out rfl
  have c6_1 := cell_fr (i := 1) P6_7.out rfl
  have c6_2 := cell_fr (i := 2) P6_7.out rfl
  have c6_3 := cell_fr (i := 3) P6_7.out rfl
  clear hb7
  go_wp2_with fail
  clear c6_0 c6_1 c6_2 c6_3
  refine (alive_w _).mono ?_
  rintro e w8 ⟨rfl, hb8⟩
  have HB8 := Lib.hid (show Below w.heap.size w w8 from HBX7.out.trans (hb8.mono HBX7.out.size))
  have Q0_8 := Lib.hid ((hb8.block w1.heap.size (Array.getElem?_eq_some_iff.1 P0_7.out).1).trans P0_7.out)
  have Q1_8 := Lib.hid ((hb8.block w2.heap.size (Array.getElem?_eq_some_iff.1 P1_7.out).1).trans P1_7.out)
  have Q2_8 := Lib.hid ((hb8.block w3.heap.size (Array.getElem?_eq_some_iff.1 P2_7.out).1).trans P2_7.out)
  have Q3_8 := Lib.hid ((hb8.block w4.heap.size (Array.getElem?_eq_some_iff.1 P3_7.out).1).trans P3_7.out)
  have Q4_8 := Lib.hid ((hb8.block w5.heap.size (Array.getElem?_eq_some_iff.1 P4_7.out).1).trans P4_7.out)
  have Q5_8 := Lib.hid ((hb8.block w6.heap.size (Array.getElem?_eq_some_iff.1 P5_7.out).1).trans P5_7.out)
  have Q6_8 := Lib.hid ((hb8.block w7.heap.size (Array.getElem?_eq_some_iff.1 P6_7.out).1).trans P6_7.out)
  have HBX8 := HB8
  have P0_8 := Q0_8
  have P1_8 := Q1_8
  have P2_8 := Q2_8
  have P3_8 := Q3_8
  have P4_8 := Q4_8
  have P5_8 := Q5_8
  have P6_8 := Q6_8
  clear hb8
  go_wp2_with fail
  go_ret
  exact ⟨rfl, HB8.out⟩
set_option maxHeartbeats 2000000 in
set_option maxRecDepth 100000 in
theorem num_p2_y (a b c q p r : Int) (w : World) (HADD : Hid (liftF 1 1 1 (addF a b) = (1, c, E, false, sDone))) (HBACK : Hid (liftF 1 1 1 (subF c b) = (1, a, E, false, sDone))) (HDIV : Hid (liftF 1 1 1 (divF a b) = (1, q, E, false, sDone))) (HFQ : Hid (Fit q)) (HFB : Hid (Fit b)) (HMUL : Hid (liftF 1 1 1 (mulF q b) = (1, p, E, false, sDone))) (HSUB : Hid (liftF 1 1 1 (subF a p) = (1, r, E, false, sDone))) (t1 : (r == 0) = false) (t2 : decide (0 < r) = true) (t3 : decide (0 < a) = true) (t4 : decide (r < b) = false) (t5 : decide (b < wrap64 (-r)) = true) : Calls Tryd.prog 8 #[.int .i64 a, .int .i64 b] w fun e w' => e = .returned (.bool true) ∧ Below w.heap.size w w' := by
  go_enter Tryd.func8, Tryd.ntmps8
  go_wp2_with fail
  refine (num30 a _).mono ?_
  rintro e w1 ⟨rfl, hb1⟩
  have HB1 := Lib.hid (show Below w.heap.size w w1 from hb1)
  have HBX1 := Lib.hid (HB1.out.alloc HB1.out.size (.cells #[.int .i64 1, .int .i64 a, .string E, .bool false] 28))
  have P0_1 := Lib.hid (World.alloc_heap_new w1 (.cells #[.int .i64 1, .int .i64 a, .string E, .bool false] 28))
  clear hb1
  go_wp2_with fail
  refine (num30 b _).mono ?_
  rintro e w2 ⟨rfl, hb2⟩
  have HB2 := Lib.hid (show Below w.heap.size w w2 from HBX1.out.trans (hb2.mono HBX1.out.size))
  have Q0_2 := Lib.hid ((hb2.block w1.heap.size (Array.getElem?_eq_some_iff.1 P0_1.out).1).trans P0_1.out)
  have HBX2 := Lib.hid (HB2.out.alloc HB2.out.size (.cells #[.int .i64 1, .int .i64 b, .string E, .bool false] 28))
  have P0_2 := Lib.hid (((World.grownBy_alloc w2 (.cells #[.int .i64 1, .int .i64 b, .string E, .bool false] 28) none).block w1.heap.size (Array.getElem?_eq_some_iff.1 Q0_2.out).1 (by simp)).trans Q0_2.out)
  have P1_2 := Lib.hid (World.alloc_heap_new w2 (.cells #[.int .i64 1, .int .i64 b, .string E, .bool false] 28))
  have c0_0 := cell_fr (i := 0) P0_2.out rfl
  have c0_1 := cell_fr (i := 1) P0_2.out rfl
  have c0_2 := cell_fr (i := 2) P0_2.out rfl
  have c0_3 := cell_fr (i := 3) P0_2.out rfl
  have c1_0 := cell_fr (i := 0) P1_2.out rfl
  have c1_1 := cell_fr (i := 1) P1_2.out rfl
  have c1_2 := cell_fr (i := 2) P1_2.out rfl
  have c1_3 := cell_fr (i := 3) P1_2.out rfl
  clear hb2
  go_wp2_with fail
  clear c0_0 c0_1 c0_2 c0_3 c1_0 c1_1 c1_2 c1_3
  refine (add_raw 1 a E false 1 b E false 1 c E false sDone _ HADD.out).mono ?_
  rintro e w3 ⟨rfl, hb3⟩
  have HB3 := Lib.hid (show Below w.heap.size w w3 from HBX2.out.trans (hb3.mono HBX2.out.size))
  have Q0_3 := Lib.hid ((hb3.block w1.heap.size (Array.getElem?_eq_some_iff.1 P0_2.out).1).trans P0_2.out)
  have Q1_3 := Lib.hid ((hb3.block w2.heap.size (Array.getElem?_eq_some_iff.1 P1_2.out).1).trans P1_2.out)
  have HBX3 := Lib.hid (HB3.out.alloc HB3.out.size (.cells #[.int .i64 1, .int .i64 c, .string E, .bool false] 28))
  have P0_3 := Lib.hid (((World.grownBy_alloc w3 (.cells #[.int .i64 1, .int .i64 c, .string E, .bool false] 28) none).block w1.heap.size (Array.getElem?_eq_some_iff.1 Q0_3.out).1 (by simp)).trans Q0_3.out)
  have P1_3 := Lib.hid (((World.grownBy_alloc w3 (.cells #[.int .i64 1, .int .i64 c, .string E, .bool false] 28) none).block w2.heap.size (Array.getElem?_eq_some_iff.1 Q1_3.out).1 (by simp)).trans Q1_3.out)
  have P2_3 := Lib.hid (World.alloc_heap_new w3 (.cells #[.int .i64 1, .int .i64 c, .string E, .bool false] 28))
  have c1_0 := cell_fr (i := 0) P1_3.out rfl
  have c1_1 := cell_fr (i := 1) P1_3.out rfl
  have c1_2 := cell_fr (i := 2) P1_3.out rfl
  have c1_3 := cell_fr (i := 3) P1_3.out rfl
  have c2_0 := cell_fr (i := 0) P2_3.out rfl
  have c2_1 := cell_fr (i := 1) P2_3.out rfl
  have c2_2 := cell_fr (i := 2) P2_3.out rfl
  have c2_3 := cell_fr (i := 3) P2_3.out rfl
  clear hb3
  go_wp2_with fail
  clear c1_0 c1_1 c1_2 c1_3 c2_0 c2_1 c2_2 c2_3
  refine (sub_raw 1 c E false 1 b E false 1 a E false sDone _ HBACK.out).mono ?_
  rintro e w4 ⟨rfl, hb4⟩
  have HB4 := Lib.hid (show Below w.heap.size w w4 from HBX3.out.trans (hb4.mono HBX3.out.size))
  have Q0_4 := Lib.hid ((hb4.block w1.heap.size (Array.getElem?_eq_some_iff.1 P0_3.out).1).trans P0_3.out)
  have Q1_4 := Lib.hid ((hb4.block w2.heap.size (Array.getElem?_eq_some_iff.1 P1_3.out).1).trans P1_3.out)
  have Q2_4 := Lib.hid ((hb4.block w3.heap.size (Array.getElem?_eq_some_iff.1 P2_3.out).1).trans P2_3.out)
  have HBX4 := Lib.hid (HB4.out.alloc HB4.out.size (.cells #[.int .i64 1, .int .i64 a, .string E, .bool false] 28))
  have P0_4 := Lib.hid (((World.grownBy_alloc w4 (.cells #[.int .i64 1, .int .i64 a, .string E, .bool false] 28) none).block w1.heap.size (Array.getElem?_eq_some_iff.1 Q0_4.out).1 (by simp)).trans Q0_4.out)
  have P1_4 := Lib.hid (((World.grownBy_alloc w4 (.cells #[.int .i64 1, .int .i64 a, .string E, .bool false] 28) none).block w2.heap.size (Array.getElem?_eq_some_iff.1 Q1_4.out).1 (by simp)).trans Q1_4.out)
  have P2_4 := Lib.hid (((World.grownBy_alloc w4 (.cells #[.int .i64 1, .int .i64 a, .string E, .bool false] 28) none).block w3.heap.size (Array.getElem?_eq_some_iff.1 Q2_4.out).1 (by simp)).trans Q2_4.out)
  have P3_4 := Lib.hid (World.alloc_heap_new w4 (.cells #[.int .i64 1, .int .i64 a, .string E, .bool false] 28))
  have c0_0 := cell_fr (i := 0) P0_4.out rfl
  have c0_1 := cell_fr (i := 1) P0_4.out rfl
  have c0_2 := cell_fr (i := 2) P0_4.out rfl
  have c0_3 := cell_fr (i := 3) P0_4.out rfl
  have c1_0 := cell_fr (i := 0) P1_4.out rfl
  have c1_1 := cell_fr (i := 1) P1_4.out rfl
  have c1_2 := cell_fr (i := 2) P1_4.out rfl
  have c1_3 := cell_fr (i := 3) P1_4.out rfl
  have c3_0 := cell_fr (i := 0) P3_4.out rfl
  have c3_1 := cell_fr (i := 1) P3_4.out rfl
  have c3_2 := cell_fr (i := 2) P3_4.out rfl
  have c3_3 := cell_fr (i := 3) P3_4.out rfl
  clear hb4
  go_wp2_with fail
  clear c0_0 c0_1 c0_2 c0_3 c1_0 c1_1 c1_2 c1_3 c3_0 c3_1 c3_2 c3_3
  refine (div_raw 1 a E false 1 b E false 1 q E false sDone _ HDIV.out).mono ?_
  rintro e w5 ⟨rfl, hb5⟩
  have HB5 := Lib.hid (show Below w.heap.size w w5 from HBX4.out.trans (hb5.mono HBX4.out.size))
  have Q0_5 := Lib.hid ((hb5.block w1.heap.size (Array.getElem?_eq_some_iff.1 P0_4.out).1).trans P0_4.out)
  have Q1_5 := Lib.hid ((hb5.block w2.heap.size (Array.getElem?_eq_some_iff.1 P1_4.out).1).trans P1_4.out)
  have Q2_5 := Lib.hid ((hb5.block w3.heap.size (Array.getElem?_eq_some_iff.1 P2_4.out).1).trans P2_4.out)
  have Q3_5 := Lib.hid ((hb5.block w4.heap.size (Array.getElem?_eq_some_iff.1 P3_4.out).1).trans P3_4.out)
  have HBX5 := Lib.hid (HB5.out.alloc HB5.out.size (.cells #[.int .i64 1, .int .i64 q, .string E, .bool false] 28))
  have P0_5 := Lib.hid (((World.grownBy_alloc w5 (.cells #[.int .i64 1, .int .i64 q, .string E, .bool false] 28) none).block w1.heap.size (Array.getElem?_eq_some_iff.1 Q0_5.out).1 (by simp)).trans Q0_5.out)
  have P1_5 := Lib.hid (((World.grownBy_alloc w5 (.cells #[.int .i64 1, .int .i64 q, .string E, .bool false] 28) none).block w2.heap.size (Array.getElem?_eq_some_iff.1 Q1_5.out).1 (by simp)).trans Q1_5.out)
  have P2_5 := Lib.hid (((World.grownBy_alloc w5 (.cells #[.int .i64 1, .int .i64 q, .string E, .bool false] 28) none).block w3.heap.size (Array.getElem?_eq_some_iff.1 Q2_5.out).1 (by simp)).trans Q2_5.out)
  have P3_5 := Lib.hid (((World.grownBy_alloc w5 (.cells #[.int .i64 1, .int .i64 q, .string E, .bool false] 28) none).block w4.heap.size (Array.getElem?_eq_some_iff.1 Q3_5.out).1 (by simp)).trans Q3_5.out)
  have P4_5 := Lib.hid (World.alloc_heap_new w5 (.cells #[.int .i64 1, .int .i64 q, .string E, .bool false] 28))
  have c4_0 := cell_fr (i := 0) P4_5.out rfl
  have c4_1 := cell_fr (i := 1) P4_5.out rfl
  have c4_2 := cell_fr (i := 2) P4_5.out rfl
  have c4_3 := cell_fr (i := 3) P4_5.out rfl
  have c1_0 := cell_fr (i := 0) P1_5.out rfl
  have c1_1 := cell_fr (i := 1) P1_5.out rfl
  have c1_2 := cell_fr (i := 2) P1_5.out rfl
  have c1_3 := cell_fr (i := 3) P1_5.out rfl
  clear hb5
  go_wp2_with fail
  clear c4_0 c4_1 c4_2 c4_3 c1_0 c1_1 c1_2 c1_3
  refine (mul_raw 1 q E false 1 b E false 1 p E false sDone _ HFQ.out HFB.out HMUL.out).mono ?_
  rintro e w6 ⟨rfl, hb6⟩
  have HB6 := Lib.hid (show Below w.heap.size w w6 from HBX5.out.trans (hb6.mono HBX5.out.size))
  have Q0_6 := Lib.hid ((hb6.block w1.heap.size (Array.getElem?_eq_some_iff.1 P0_5.out).1).trans P0_5.out)
  have Q1_6 := Lib.hid ((hb6.block w2.heap.size (Array.getElem?_eq_some_iff.1 P1_5.out).1).trans P1_5.out)
  have Q2_6 := Lib.hid ((hb6.block w3.heap.size (Array.getElem?_eq_some_iff.1 P2_5.out).1).trans P2_5.out)
  have Q3_6 := Lib.hid ((hb6.block w4.heap.size (Array.getElem?_eq_some_iff.1 P3_5.out).1).trans P3_5.out)
  have Q4_6 := Lib.hid ((hb6.block w5.heap.size (Array.getElem?_eq_some_iff.1 P4_5.out).1).trans P4_5.out)
  have HBX6 := Lib.hid (HB6.out.alloc HB6.out.size (.cells #[.int .i64 1, .int .i64 p, .string E, .bool false] 28))
  have P0_6 := Lib.hid (((World.grownBy_alloc w6 (.cells #[.int .i64 1, .int .i64 p, .string E, .bool false] 28) none).block w1.heap.size (Array.getElem?_eq_some_iff.1 Q0_6.out).1 (by simp)).trans Q0_6.out)
  have P1_6 := Lib.hid (((World.grownBy_alloc w6 (.cells #[.int .i64 1, .int .i64 p, .string E, .bool false] 28) none).block w2.heap.size (Array.getElem?_eq_some_iff.1 Q1_6.out).1 (by simp)).trans Q1_6.out)
  have P2_6 := Lib.hid (((World.grownBy_alloc w6 (.cells #[.int .i64 1, .int .i64 p, .string E, .bool false] 28) none).block w3.heap.size (Array.getElem?_eq_some_iff.1 Q2_6.out).1 (by simp)).trans Q2_6.out)
  have P3_6 := Lib.hid (((World.grownBy_alloc w6 (.cells #[.int .i64 1, .int .i64 p, .string E, .bool false] 28) none).block w4.heap.size (Array.getElem?_eq_some_iff.1 Q3_6.out).1 (by simp)).trans Q3_6.out)
  have P4_6 := Lib.hid (((World.grownBy_alloc w6 (.cells #[.int .i64 1, .int .i64 p, .string E, .bool false] 28) none).block w5.heap.size (Array.getElem?_eq_some_iff.1 Q4_6.out).1 (by simp)).trans Q4_6.out)
  have P5_6 := Lib.hid (World.alloc_heap_new w6 (.cells #[.int .i64 1, .int .i64 p, .string E, .bool false] 28))
  have c0_0 := cell_fr (i := 0) P0_6.out rfl
  have c0_1 := cell_fr (i := 1) P0_6.out rfl
  have c0_2 := cell_fr (i := 2) P0_6.out rfl
  have c0_3 := cell_fr (i := 3) P0_6.out rfl
  have c5_0 := cell_fr (i := 0) P5_6.out rfl
  have c5_1 := cell_fr (i := 1) P5_6.out rfl
  have c5_2 := cell_fr (i := 2) P5_6.out rfl
  have c5_3 := cell_fr (i := 3) P5_6.out rfl
  clear hb6
  go_wp2_with fail
  clear c0_0 c0_1 c0_2 c0_3 c5_0 c5_1 c5_2 c5_3
  refine (sub_raw 1 a E false 1 p E false 1 r E false sDone _ HSUB.out).mono ?_
  rintro e w7 ⟨rfl, hb7⟩
  have HB7 := Lib.hid (show Below w.heap.size w w7 from HBX6.out.trans (hb7.mono HBX6.out.size))
  have Q0_7 := Lib.hid ((hb7.block w1.heap.size (Array.getElem?_eq_some_iff.1 P0_6.out).1).trans P0_6.out)
  have Q1_7 := Lib.hid ((hb7.block w2.heap.size (Array.getElem?_eq_some_iff.1 P1_6.out).1).trans P1_6.out)
  have Q2_7 := Lib.hid ((hb7.block w3.heap.size (Array.getElem?_eq_some_iff.1 P2_6.out).1).trans P2_6.out)
  have Q3_7 := Lib.hid ((hb7.block w4.heap.size (Array.getElem?_eq_some_iff.1 P3_6.out).1).trans P3_6.out)
  have Q4_7 := Lib.hid ((hb7.block w5.heap.size (Array.getElem?_eq_some_iff.1 P4_6.out).1).trans P4_6.out)
  have Q5_7 := Lib.hid ((hb7.block w6.heap.size (Array.getElem?_eq_some_iff.1 P5_6.out).1).trans P5_6.out)
  have HBX7 := Lib.hid (HB7.out.alloc HB7.out.size (.cells #[.int .i64 1, .int .i64 r, .string E, .bool false] 28))
  have P0_7 := Lib.hid (((World.grownBy_alloc w7 (.cells #[.int .i64 1, .int .i64 r, .string E, .bool false] 28) none).block w1.heap.size (Array.getElem?_eq_some_iff.1 Q0_7.out).1 (by simp)).trans Q0_7.out)
  have P1_7 := Lib.hid (((World.grownBy_alloc w7 (.cells #[.int .i64 1, .int .i64 r, .string E, .bool false] 28) none).block w2.heap.size (Array.getElem?_eq_some_iff.1 Q1_7.out).1 (by simp)).trans Q1_7.out)
  have P2_7 := Lib.hid (((World.grownBy_alloc w7 (.cells #[.int .i64 1, .int .i64 r, .string E, .bool false] 28) none).block w3.heap.size (Array.getElem?_eq_some_iff.1 Q2_7.out).1 (by simp)).trans Q2_7.out)
  have P3_7 := Lib.hid (((World.grownBy_alloc w7 (.cells #[.int .i64 1, .int .i64 r, .string E, .bool false] 28) none).block w4.heap.size (Array.getElem?_eq_some_iff.1 Q3_7.out).1 (by simp)).trans Q3_7.out)
  have P4_7 := Lib.hid (((World.grownBy_alloc w7 (.cells #[.int .i64 1, .int .i64 r, .string E, .bool false] 28) none).block w5.heap.size (Array.getElem?_eq_some_iff.1 Q4_7.out).1 (by simp)).trans Q4_7.out)
  have P5_7 := Lib.hid (((World.grownBy_alloc w7 (.cells #[.int .i64 1, .int .i64 r, .string E, .bool false] 28) none).block w6.heap.size (Array.getElem?_eq_some_iff.1 Q5_7.out).1 (by simp)).trans Q5_7.out)
  have P6_7 := Lib.hid (World.alloc_heap_new w7 (.cells #[.int .i64 1, .int .i64 r, .string E, .bool false] 28))
  have c6_0 := cell_fr (i := 0) P6_7.out rfl
  have c6_1 := cell_fr (i := 1) P6_7.out rfl
  have c6_2 := cell_fr (i := 2) P6_7.out rfl
  have c6_3 := cell_fr (i := 3) P6_7.out rfl
  clear hb7
  go_wp2_with fail
  clear c6_0 c6_1 c6_2 c6_3
  refine (alive_w _).mono ?_
  rintro e w8 ⟨rfl, hb8⟩
  have HB8 := Lib.hid (show Below w.heap.size w w8 from HBX7.out.trans (hb8.mono HBX7.out.size))
  have Q0_8 := Lib.hid ((hb8.block w1.heap.size (Array.getElem?_eq_some_iff.1 P0_7.out).1).trans P0_7.out)
  have Q1_8 := Lib.hid ((hb8.block w2.heap.size (Array.getElem?_eq_some_iff.1 P1_7.out).1).trans P1_7.out)
  have Q2_8 := Lib.hid ((hb8.block w3.heap.size (Array.getElem?_eq_some_iff.1 P2_7.out).1).trans P2_7.out)
  have Q3_8 := Lib.hid ((hb8.block w4.heap.size (Array.getElem?_eq_some_iff.1 P3_7.out).1).trans P3_7.out)
  have Q4_8 := Lib.hid ((hb8.block w5.heap.size (Array.getElem?_eq_some_iff.1 P4_7.out).1).trans P4_7.out)
  have Q5_8 := Lib.hid ((hb8.block w6.heap.size (Array.getElem?_eq_some_iff.1 P5_7.out).1).trans P5_7.out)
  have Q6_8 := Lib.hid ((hb8.block w7.heap.size (Array.getElem?_eq_some_iff.1 P6_7.out).1).trans P6_7.out)
  have HBX8 := HB8
  have P0_8 := Q0_8
  have P1_8 := Q1_8
  have P2_8 := Q2_8
  have P3_8 := Q3_8
  have P4_8 := Q4_8
  have P5_8 := Q5_8
  have P6_8 := Q6_8
  clear hb8
  go_wp2_with fail
  go_ret
  exact ⟨rfl, HB8.out⟩
set_option maxHeartbeats 2000000 in
set_option maxRecDepth 100000 in
theorem num_m1_y (a b c q p r : Int) (w : World) (HADD : Hid (liftF 1 1 1 (addF a b) = (1, c, E, false, sDone))) (HBACK : Hid (liftF 1 1 1 (subF c b) = (1, a, E, false, sDone))) (HDIV : Hid (liftF 1 1 1 (divF a b) = (1, q, E, false, sDone))) (HFQ : Hid (Fit q)) (HFB : Hid (Fit b)) (HMUL : Hid (liftF 1 1 1 (mulF q b) = (1, p, E, false, sDone))) (HSUB : Hid (liftF 1 1 1 (subF a p) = (1, r, E, false, sDone))) (t1 : (r == 0) = false) (t2 : decide (0 < r) = false) (t3 : decide (0 < a) = false) (t6 : decide (r < 0) = true) (t4 : decide (b < r) = true) : Calls Tryd.prog 8 #[.int .i64 a, .int .i64 b] w fun e w' => e = .returned (.bool true) ∧ Below w.heap.size w w' := by
  go_enter Tryd.func8, Tryd.ntmps8
  go_wp2_with fail
  refine (num30 a _).mono ?_
  rintro e w1 ⟨rfl, hb1⟩
  have HB1 := Lib.hid (show Below w.heap.size w w1 from hb1)
  have HBX1 := Lib.hid (HB1.out.alloc HB1.out.size (.cells #[.int .i64 1, .int .i64 a, .string E, .bool false] 28))
  have P0_1 := Lib.hid (World.alloc_heap_new w1 (.cells #[.int .i64 1, .int .i64 a, .string E, .bool false] 28))
  clear hb1
  go_wp2_with fail
  refine (num30 b _).mono ?_
  rintro e w2 ⟨rfl, hb2⟩
  have HB2 := Lib.hid (show Below w.heap.size w w2 from HBX1.out.trans (hb2.mono HBX1.out.size))
  have Q0_2 := Lib.hid ((hb2.block w1.heap.size (Array.getElem?_eq_some_iff.1 P0_1.out).1).trans P0_1.out)
  have HBX2 := Lib.hid (HB2.out.alloc HB2.out.size (.cells #[.int .i64 1, .int .i64 b, .string E, .bool false] 28))
  have P0_2 := Lib.hid (((World.grownBy_alloc w2 (.cells #[.int .i64 1, .int .i64 b, .string E, .bool false] 28) none).block w1.heap.size (Array.getElem?_eq_some_iff.1 Q0_2.out).1 (by simp)).trans Q0_2.out)
  have P1_2 := Lib.hid (World.alloc_heap_new w2 (.cells #[.int .i64 1, .int .i64 b, .string E, .bool false] 28))
  have c0_0 := cell_fr (i := 0) P0_2.out rfl
  have c0_1 := cell_fr (i := 1) P0_2.out rfl
  have c0_2 := cell_fr (i := 2) P0_2.out rfl
  have c0_3 := cell_fr (i := 3) P0_2.out rfl
  have c1_0 := cell_fr (i := 0) P1_2.out rfl
  have c1_1 := cell_fr (i := 1) P1_2.out rfl
  have c1_2 := cell_fr (i := 2) P1_2.out rfl
  have c1_3 := cell_fr (i := 3) P1_2.out rfl
  clear hb2
  go_wp2_with fail
  clear c0_0 c0_1 c0_2 c0_3 c1_0 c1_1 c1_2 c1_3
  refine (add_raw 1 a E false 1 b E false 1 c E false sDone _ HADD.out).mono ?_
  rintro e w3 ⟨rfl, hb3⟩
  have HB3 := Lib.hid (show Below w.heap.size w w3 from HBX2.out.trans (hb3.mono HBX2.out.size))
  have Q0_3 := Lib.hid ((hb3.block w1.heap.size (Array.getElem?_eq_some_iff.1 P0_2.out).1).trans P0_2.out)
  have Q1_3 := Lib.hid ((hb3.block w2.heap.size (Array.getElem?_eq_some_iff.1 P1_2.out).1).trans P1_2.out)
  have HBX3 := Lib.hid (HB3.out.alloc HB3.out.size (.cells #[.int .i64 1, .int .i64 c, .string E, .bool false] 28))
  have P0_3 := Lib.hid (((World.grownBy_alloc w3 (.cells #[.int .i64 1, .int .i64 c, .string E, .bool false] 28) none).block w1.heap.size (Array.getElem?_eq_some_iff.1 Q0_3.out).1 (by simp)).trans Q0_3.out)
  have P1_3 := Lib.hid (((World.grownBy_alloc w3 (.cells #[.int .i64 1, .int .i64 c, .string E, .bool false] 28) none).block w2.heap.size (Array.getElem?_eq_some_iff.1 Q1_3.out).1 (by simp)).trans Q1_3.out)
  have P2_3 := Lib.hid (World.alloc_heap_new w3 (.cells #[.int .i64 1, .int .i64 c, .string E, .bool false] 28))
  have c1_0 := cell_fr (i := 0) P1_3.out rfl
  have c1_1 := cell_fr (i := 1) P1_3.out rfl
  have c1_2 := cell_fr (i := 2) P1_3.out rfl
  have c1_3 := cell_fr (i := 3) P1_3.out rfl
  have c2_0 := cell_fr (i := 0) P2_3.out rfl
  have c2_1 := cell_fr (i := 1) P2_3.out rfl
  have c2_2 := cell_fr (i := 2) P2_3.out rfl
  have c2_3 := cell_fr (i := 3) P2_3.out rfl
  clear hb3
  go_wp2_with fail
  clear c1_0 c1_1 c1_2 c1_3 c2_0 c2_1 c2_2 c2_3
  refine (sub_raw 1 c E false 1 b E false 1 a E false sDone _ HBACK.out).mono ?_
  rintro e w4 ⟨rfl, hb4⟩
  have HB4 := Lib.hid (show Below w.heap.size w w4 from HBX3.out.trans (hb4.mono HBX3.out.size))
  have Q0_4 := Lib.hid ((hb4.block w1.heap.size (Array.getElem?_eq_some_iff.1 P0_3.out).1).trans P0_3.out)
  have Q1_4 := Lib.hid ((hb4.block w2.heap.size (Array.getElem?_eq_some_iff.1 P1_3.out).1).trans P1_3.out)
  have Q2_4 := Lib.hid ((hb4.block w3.heap.size (Array.getElem?_eq_some_iff.1 P2_3.out).1).trans P2_3.out)
  have HBX4 := Lib.hid (HB4.out.alloc HB4.out.size (.cells #[.int .i64 1, .int .i64 a, .string E, .bool false] 28))
  have P0_4 := Lib.hid (((World.grownBy_alloc w4 (.cells #[.int .i64 1, .int .i64 a, .string E, .bool false] 28) none).block w1.heap.size (Array.getElem?_eq_some_iff.1 Q0_4.out).1 (by simp)).trans Q0_4.out)
  have P1_4 := Lib.hid (((World.grownBy_alloc w4 (.cells #[.int .i64 1, .int .i64 a, .string E, .bool false] 28) none).block w2.heap.size (Array.getElem?_eq_some_iff.1 Q1_4.out).1 (by simp)).trans Q1_4.out)
  have P2_4 := Lib.hid (((World.grownBy_alloc w4 (.cells #[.int .i64 1, .int .i64 a, .string E, .bool false] 28) none).block w3.heap.size (Array.getElem?_eq_some_iff.1 Q2_4.out).1 (by simp)).trans Q2_4.out)
  have P3_4 := Lib.hid (World.alloc_heap_new w4 (.cells #[.int .i64 1, .int .i64 a, .string E, .bool false] 28))
  have c0_0 := cell_fr (i := 0) P0_4.out rfl
  have c0_1 := cell_fr (i := 1) P0_4.out rfl
  have c0_2 := cell_fr (i := 2) P0_4.out rfl
  have c0_3 := cell_fr (i := 3) P0_4.out rfl
  have c1_0 := cell_fr (i := 0) P1_4.out rfl
  have c1_1 := cell_fr (i := 1) P1_4.out rfl
  have c1_2 := cell_fr (i := 2) P1_4.out rfl
  have c1_3 := cell_fr (i := 3) P1_4.out rfl
  have c3_0 := cell_fr (i := 0) P3_4.out rfl
  have c3_1 := cell_fr (i := 1) P3_4.out rfl
  have c3_2 := cell_fr (i := 2) P3_4.out rfl
  have c3_3 := cell_fr (i := 3) P3_4.out rfl
  clear hb4
  go_wp2_with fail
  clear c0_0 c0_1 c0_2 c0_3 c1_0 c1_1 c1_2 c1_3 c3_0 c3_1 c3_2 c3_3
  refine (div_raw 1 a E false 1 b E false 1 q E false sDone _ HDIV.out).mono ?_
  rintro e w5 ⟨rfl, hb5⟩
  have HB5 := Lib.hid (show Below w.heap.size w w5 from HBX4.out.trans (hb5.mono HBX4.out.size))
  have Q0_5 := Lib.hid ((hb5.block w1.heap.size (Array.getElem?_eq_some_iff.1 P0_4.out).1).trans P0_4.out)
  have Q1_5 := Lib.hid ((hb5.block w2.heap.size (Array.getElem?_eq_some_iff.1 P1_4.out).1).trans P1_4.out)
  have Q2_5 := Lib.hid ((hb5.block w3.heap.size (Array.getElem?_eq_some_iff.1 P2_4.out).1).trans P2_4.out)
  have Q3_5 := Lib.hid ((hb5.block w4.heap.size (Array.getElem?_eq_some_iff.1 P3_4.out).1).trans P3_4.out)
  have HBX5 := Lib.hid (HB5.out.alloc HB5.out.size (.cells #[.int .i64 1, .int .i64 q, .string E, .bool false] 28))
  have P0_5 := Lib.hid (((World.grownBy_alloc w5 (.cells #[.int .i64 1, .int .i64 q, .string E, .bool false] 28) none).block w1.heap.size (Array.getElem?_eq_some_iff.1 Q0_5.out).1 (by simp)).trans Q0_5.out)
  have P1_5 := Lib.hid (((World.grownBy_alloc w5 (.cells #[.int .i64 1, .int .i64 q, .string E, .bool false] 28) none).block w2.heap.size (Array.getElem?_eq_some_iff.1 Q1_5.out).1 (by simp)).trans Q1_5.out)
  have P2_5 := Lib.hid (((World.grownBy_alloc w5 (.cells #[.int .i64 1, .int .i64 q, .string E, .bool false] 28) none).block w3.heap.size (Array.getElem?_eq_some_iff.1 Q2_5.out).1 (by simp)).trans Q2_5.out)
  have P3_5 := Lib.hid (((World.grownBy_alloc w5 (.cells #[.int .i64 1, .int .i64 q, .string E, .bool false] 28) none).block w4.heap.size (Array.getElem?_eq_some_iff.1 Q3_5.out).1 (by simp)).trans Q3_5.out)
  have P4_5 := Lib.hid (World.alloc_heap_new w5 (.cells #[.int .i64 1, .int .i64 q, .string E, .bool false] 28))
  have c4_0 := cell_fr (i := 0) P4_5.out rfl
  have c4_1 := cell_fr (i := 1) P4_5.out rfl
  have c4_2 := cell_fr (i := 2) P4_5.out rfl
  have c4_3 := cell_fr (i := 3) P4_5.out rfl
  have c1_0 := cell_fr (i := 0) P1_5.out rfl
  have c1_1 := cell_fr (i := 1) P1_5.out rfl
  have c1_2 := cell_fr (i := 2) P1_5.out rfl
  have c1_3 := cell_fr (i := 3) P1_5.out rfl
  clear hb5
  go_wp2_with fail
  clear c4_0 c4_1 c4_2 c4_3 c1_0 c1_1 c1_2 c1_3
  refine (mul_raw 1 q E false 1 b E false 1 p E false sDone _ HFQ.out HFB.out HMUL.out).mono ?_
  rintro e w6 ⟨rfl, hb6⟩
  have HB6 := Lib.hid (show Below w.heap.size w w6 from HBX5.out.trans (hb6.mono HBX5.out.size))
  have Q0_6 := Lib.hid ((hb6.block w1.heap.size (Array.getElem?_eq_some_iff.1 P0_5.out).1).trans P0_5.out)
  have Q1_6 := Lib.hid ((hb6.block w2.heap.size (Array.getElem?_eq_some_iff.1 P1_5.out).1).trans P1_5.out)
  have Q2_6 := Lib.hid ((hb6.block w3.heap.size (Array.getElem?_eq_some_iff.1 P2_5.out).1).trans P2_5.out)
  have Q3_6 := Lib.hid ((hb6.block w4.heap.size (Array.getElem?_eq_some_iff.1 P3_5.out).1).trans P3_5.out)
  have Q4_6 := Lib.hid ((hb6.block w5.heap.size (Array.getElem?_eq_some_iff.1 P4_5.out).1).trans P4_5.out)
  have HBX6 := Lib.hid (HB6.out.alloc HB6.out.size (.cells #[.int .i64 1, .int .i64 p, .string E, .bool false] 28))
  have P0_6 := Lib.hid (((World.grownBy_alloc w6 (.cells #[.int .i64 1, .int .i64 p, .string E, .bool false] 28) none).block w1.heap.size (Array.getElem?_eq_some_iff.1 Q0_6.out).1 (by simp)).trans Q0_6.out)
  have P1_6 := Lib.hid (((World.grownBy_alloc w6 (.cells #[.int .i64 1, .int .i64 p, .string E, .bool false] 28) none).block w2.heap.size (Array.getElem?_eq_some_iff.1 Q1_6.out).1 (by simp)).trans Q1_6.out)
  have P2_6 := Lib.hid (((World.grownBy_alloc w6 (.cells #[.int .i64 1, .int .i64 p, .string E, .bool false] 28) none).block w3.heap.size (Array.getElem?_eq_some_iff.1 Q2_6.out).1 (by simp)).trans Q2_6.out)
  have P3_6 := Lib.hid (((World.grownBy_alloc w6 (.cells #[.int .i64 1, .int .i64 p, .string E, .bool false] 28) none).block w4.heap.size (Array.getElem?_eq_some_iff.1 Q3_6.out).1 (by simp)).trans Q3_6.out)
  have P4_6 := Lib.hid (((World.grownBy_alloc w6 (.cells #[.int .i64 1, .int .i64 p, .string E, .bool false] 28) none).block w5.heap.size (Array.getElem?_eq_some_iff.1 Q4_6.out).1 (by simp)).trans Q4_6.out)
  have P5_6 := Lib.hid (World.alloc_heap_new w6 (.cells #[.int .i64 1, .int .i64 p, .string E, .bool false] 28))
  have c0_0 := cell_fr (i := 0) P0_6.out rfl
  have c0_1 := cell_fr (i := 1) P0_6.out rfl
  have c0_2 := cell_fr (i := 2) P0_6.out rfl
  have c0_3 := cell_fr (i := 3) P0_6.out rfl
  have c5_0 := cell_fr (i := 0) P5_6.out rfl
  have c5_1 := cell_fr (i := 1) P5_6.out rfl
  have c5_2 := cell_fr (i := 2) P5_6.out rfl
  have c5_3 := cell_fr (i := 3) P5_6.out rfl
  clear hb6
  go_wp2_with fail
  clear c0_0 c0_1 c0_2 c0_3 c5_0 c5_1 c5_2 c5_3
  refine (sub_raw 1 a E false 1 p E false 1 r E false sDone _ HSUB.out).mono ?_
  rintro e w7 ⟨rfl, hb7⟩
  have HB7 := Lib.hid (show Below w.heap.size w w7 from HBX6.out.trans (hb7.mono HBX6.out.size))
  have Q0_7 := Lib.hid ((hb7.block w1.heap.size (Array.getElem?_eq_some_iff.1 P0_6.out).1).trans P0_6.out)
  have Q1_7 := Lib.hid ((hb7.block w2.heap.size (Array.getElem?_eq_some_iff.1 P1_6.out).1).trans P1_6.out)
  have Q2_7 := Lib.hid ((hb7.block w3.heap.size (Array.getElem?_eq_some_iff.1 P2_6.out).1).trans P2_6.out)
  have Q3_7 := Lib.hid ((hb7.block w4.heap.size (Array.getElem?_eq_some_iff.1 P3_6.out).1).trans P3_6.out)
  have Q4_7 := Lib.hid ((hb7.block w5.heap.size (Array.getElem?_eq_some_iff.1 P4_6.out).1).trans P4_6.out)
  have Q5_7 := Lib.hid ((hb7.block w6.heap.size (Array.getElem?_eq_some_iff.1 P5_6.out).1).trans P5_6.out)
  have HBX7 := Lib.hid (HB7.out.alloc HB7.out.size (.cells #[.int .i64 1, .int .i64 r, .string E, .bool false] 28))
  have P0_7 := Lib.hid (((World.grownBy_alloc w7 (.cells #[.int .i64 1, .int .i64 r, .string E, .bool false] 28) none).block w1.heap.size (Array.getElem?_eq_some_iff.1 Q0_7.out).1 (by simp)).trans Q0_7.out)
  have P1_7 := Lib.hid (((World.grownBy_alloc w7 (.cells #[.int .i64 1, .int .i64 r, .string E, .bool false] 28) none).block w2.heap.size (Array.getElem?_eq_some_iff.1 Q1_7.out).1 (by simp)).trans Q1_7.out)
  have P2_7 := Lib.hid (((World.grownBy_alloc w7 (.cells #[.int .i64 1, .int .i64 r, .string E, .bool false] 28) none).block w3.heap.size (Array.getElem?_eq_some_iff.1 Q2_7.out).1 (by simp)).trans Q2_7.out)
  have P3_7 := Lib.hid (((World.grownBy_alloc w7 (.cells #[.int .i64 1, .int .i64 r, .string E, .bool false] 28) none).block w4.heap.size (Array.getElem?_eq_some_iff.1 Q3_7.out).1 (by simp)).trans Q3_7.out)
  have P4_7 := Lib.hid (((World.grownBy_alloc w7 (.cells #[.int .i64 1, .int .i64 r, .string E, .bool false] 28) none).block w5.heap.size (Array.getElem?_eq_some_iff.1 Q4_7.out).1 (by simp)).trans Q4_7.out)
  have P5_7 := Lib.hid (((World.grownBy_alloc w7 (.cells #[.int .i64 1, .int .i64 r, .string E, .bool false] 28) none).block w6.heap.size (Array.getElem?_eq_some_iff.1 Q5_7.out).1 (by simp)).trans Q5_7.out)
  have P6_7 := Lib.hid (World.alloc_heap_new w7 (.cells #[.int .i64 1, .int .i64 r, .string E, .bool false] 28))
  have c6_0 := cell_fr (i := 0) P6_7.out rfl
  have c6_1 := cell_fr (i := 1) P6_7.out rfl
  have c6_2 := cell_fr (i := 2) P6_7.out rfl
  have c6_3 := cell_fr (i := 3) P6_7.out rfl
  clear hb7
  go_wp2_with fail
  clear c6_0 c6_1 c6_2 c6_3
  refine (alive_w _).mono ?_
  rintro e w8 ⟨rfl, hb8⟩
  have HB8 := Lib.hid (show Below w.heap.size w w8 from HBX7.out.trans (hb8.mono HBX7.out.size))
  have Q0_8 := Lib.hid ((hb8.block w1.heap.size (Array.getElem?_eq_some_iff.1 P0_7.out).1).trans P0_7.out)
  have Q1_8 := Lib.hid ((hb8.block w2.heap.size (Array.getElem?_eq_some_iff.1 P1_7.out).1).trans P1_7.out)
  have Q2_8 := Lib.hid ((hb8.block w3.heap.size (Array.getElem?_eq_some_iff.1 P2_7.out).1).trans P2_7.out)
  have Q3_8 := Lib.hid ((hb8.block w4.heap.size (Array.getElem?_eq_some_iff.1 P3_7.out).1).trans P3_7.out)
  have Q4_8 := Lib.hid ((hb8.block w5.heap.size (Array.getElem?_eq_some_iff.1 P4_7.out).1).trans P4_7.out)
  have Q5_8 := Lib.hid ((hb8.block w6.heap.size (Array.getElem?_eq_some_iff.1 P5_7.out).1).trans P5_7.out)
  have Q6_8 := Lib.hid ((hb8.block w7.heap.size (Array.getElem?_eq_some_iff.1 P6_7.out).1).trans P6_7.out)
  have HBX8 := HB8
  have P0_8 := Q0_8
  have P1_8 := Q1_8
  have P2_8 := Q2_8
  have P3_8 := Q3_8
  have P4_8 := Q4_8
  have P5_8 := Q5_8
  have P6_8 := Q6_8
  clear hb8
  go_wp2_with fail
  go_ret
  exact ⟨rfl, HB8.out⟩
set_option maxHeartbeats 2000000 in
set_option maxRecDepth 100000 in
theorem num_m2_y (a b c q p r : Int) (w : World) (HADD : Hid (liftF 1 1 1 (addF a b) = (1, c, E, false, sDone))) (HBACK : Hid (liftF 1 1 1 (subF c b) = (1, a, E, false, sDone))) (HDIV : Hid (liftF 1 1 1 (divF a b) = (1, q, E, false, sDone))) (HFQ : Hid (Fit q)) (HFB : Hid (Fit b)) (HMUL : Hid (liftF 1 1 1 (mulF q b) = (1, p, E, false, sDone))) (HSUB : Hid (liftF 1 1 1 (subF a p) = (1, r, E, false, sDone))) (t1 : (r == 0) = false) (t2 : decide (0 < r) = false) (t3 : decide (0 < a) = false) (t6 : decide (r < 0) = true) (t4 : decide (b < r) = false) (t5 : decide (wrap64 (-r) < b) = true) : Calls Tryd.prog 8 #[.int .i64 a, .int .i64 b] w fun e w' => e = .returned (.bool true) ∧ Below w.heap.size w w' := by
  go_enter Tryd.func8, Tryd.ntmps8
  go_wp2_with fail
  refine (num30 a _).mono ?_
  rintro e w1 ⟨rfl, hb1⟩
  have HB1 := Lib.hid (show Below w.heap.size w w1 from hb1)
  have HBX1 := Lib.hid (HB1.out.alloc HB1.out.size (.cells #[.int .i64 1, .int .i64 a, .string E, .bool false] 28))
  have P0_1 := Lib.hid (World.alloc_heap_new w1 (.cells #[.int .i64 1, .int .i64 a, .string E, .bool false] 28))
  clear hb1
  go_wp2_with fail
  refine (num30 b _).mono ?_
  rintro e w2 ⟨rfl, hb2⟩
  have HB2 := Lib.hid (show Below w.heap.size w w2 from HBX1.out.trans (hb2.mono HBX1.out.size))
  have Q0_2 := Lib.hid ((hb2.block w1.heap.size (Array.getElem?_eq_some_iff.1 P0_1.out).1).trans P0_1.out)
  have HBX2 := Lib.hid (HB2.out.alloc HB2.out.size (.cells #[.int .i64 1, .int .i64 b, .string E, .bool false] 28))
  have P0_2 := Lib.hid (((World.grownBy_alloc w2 (.cells #[.int .i64 1, .int .i64 b, .string E, .bool false] 28) none).block w1.heap.size (Array.getElem?_eq_some_iff.1 Q0_2.out).1 (by simp)).trans Q0_2.out)
  have P1_2 := Lib.hid (World.alloc_heap_new w2 (.cells #[.int .i64 1, .int .i64 b, .string E, .bool false] 28))
  have c0_0 := cell_fr (i := 0) P0_2.out rfl
  have c0_1 := cell_fr (i := 1) P0_2.out rfl
  have c0_2 := cell_fr (i := 2) P0_2.out rfl
  have c0_3 := cell_fr (i := 3) P0_2.out rfl
  have c1_0 := cell_fr (i := 0) P1_2.out rfl
  have c1_1 := cell_fr (i := 1) P1_2.out rfl
  have c1_2 := cell_fr (i := 2) P1_2.out rfl
  have c1_3 := cell_fr (i := 3) P1_2.out rfl
  clear hb2
  go_wp2_with fail
  clear c0_0 c0_1 c0_2 c0_3 c1_0 c1_1 c1_2 c1_3
  refine (add_raw 1 a E false 1 b E false 1 c E false sDone _ HADD.out).mono ?_
  rintro e w3 ⟨rfl, hb3⟩
  have HB3 := Lib.hid (show Below w.heap.size w w3 from HBX2.out.trans (hb3.mono HBX2.out.size))
  have Q0_3 := Lib.hid ((hb3.block w1.heap.size (Array.getElem?_eq_some_iff.1 P0_2.out).1).trans P0_2.out)
  have Q1_3 := Lib.hid ((hb3.block w2.heap.size (Array.getElem?_eq_some_iff.1 P1_2.out).1).trans P1_2.out)
  have HBX3 := Lib.hid (HB3.out.alloc HB3.out.size (.cells #[.int .i64 1, .int .i64 c, .string E, .bool false] 28))
  have P0_3 := Lib.hid (((World.grownBy_alloc w3 (.cells #[.int .i64 1, .int .i64 c, .string E, .bool false] 28) none).block w1.heap.size (Array.getElem?_eq_some_iff.1 Q0_3.out).1 (by simp)).trans Q0_3.out)
  have P1_3 := Lib.hid (((World.grownBy_alloc w3 (.cells #[.int .i64 1, .int .i64 c, .string E, .bool false] 28) none).block w2.heap.size (Array.getElem?_eq_some_iff.1 Q1_3.out).1 (by simp)).trans Q1_3.out)
  have P2_3 := Lib.hid (World.alloc_heap_new w3 (.cells #[.int .i64 1, .int .i64 c, .string E, .bool false] 28))
  have c1_0 := cell_fr (i := 0) P1_3.out rfl
  have c1_1 := cell_fr (i := 1) P1_3.out rfl
  have c1_2 := cell_fr (i := 2) P1_3.out rfl
  have c1_3 := cell_fr (i := 3) P1_3.out rfl
  have c2_0 := cell_fr (i := 0) P2_3.out rfl
  have c2_1 := cell_fr (i := 1) P2_3.out rfl
  have c2_2 := cell_fr (i := 2) P2_3.out rfl
  have c2_3 := cell_fr (i := 3) P2_3.out rfl
  clear hb3
  go_wp2_with fail
  clear c1_0 c1_1 c1_2 c1_3 c2_0 c2_1 c2_2 c2_3
  refine (sub_raw 1 c E false 1 b E false 1 a E false sDone _ HBACK.out).mono ?_
  rintro e w4 ⟨rfl, hb4⟩
  have HB4 := Lib.hid (show Below w.heap.size w w4 from HBX3.out.trans (hb4.mono HBX3.out.size))
  have Q0_4 := Lib.hid ((hb4.block w1.heap.size (Array.getElem?_eq_some_iff.1 P0_3.out).1).trans P0_3.out)
  have Q1_4 := Lib.hid ((hb4.block w2.heap.size (Array.getElem?_eq_some_iff.1 P1_3.out).1).trans P1_3.out)
  have Q2_4 := Lib.hid ((hb4.block w3.heap.size (Array.getElem?_eq_some_iff.1 P2_3.out).1).trans P2_3.out)
  have HBX4 := Lib.hid (HB4.out.alloc HB4.out.size (.cells #[.int .i64 1, .int .i64 a, .string E, .bool false] 28))
  have P0_4 := Lib.hid (((World.grownBy_alloc w4 (.cells #[.int .i64 1, .int .i64 a, .string E, .bool false] 28) none).block w1.heap.size (Array.getElem?_eq_some_iff.1 Q0_4.out).1 (by simp)).trans Q0_4.out)
  have P1_4 := Lib.hid (((World.grownBy_alloc w4 (.cells #[.int .i64 1, .int .i64 a, .string E, .bool false] 28) none).block w2.heap.size (Array.getElem?_eq_some_iff.1 Q1_4.out).1 (by simp)).trans Q1_4.out)
  have P2_4 := Lib.hid (((World.grownBy_alloc w4 (.cells #[.int .i64 1, .int .i64 a, .string E, .bool false] 28) none).block w3.heap.size (Array.getElem?_eq_some_iff.1 Q2_4.out).1 (by simp)).trans Q2_4.out)
  have P3_4 := Lib.hid (World.alloc_heap_new w4 (.cells #[.int .i64 1, .int .i64 a, .string E, .bool false] 28))
  have c0_0 := cell_fr (i := 0) P0_4.out rfl
  have c0_1 := cell_fr (i := 1) P0_4.out rfl
  have c0_2 := cell_fr (i := 2) P0_4.out rfl
  have c0_3 := cell_fr (i := 3) P0_4.out rfl
  have c1_0 := cell_fr (i := 0) P1_4.out rfl
  have c1_1 := cell_fr (i := 1) P1_4.out rfl
  have c1_2 := cell_fr (i := 2) P1_4.out rfl
  have c1_3 := cell_fr (i := 3) P1_4.out rfl
  have c3_0 := cell_fr (i := 0) P3_4.out rfl
  have c3_1 := cell_fr (i := 1) P3_4.out rfl
  have c3_2 := cell_fr (i := 2) P3_4.out rfl
  have c3_3 := cell_fr (i := 3) P3_4.out rfl
  clear hb4
  go_wp2_with fail
  clear c0_0 c0_1 c0_2 c0_3 c1_0 c1_1 c1_2 c1_3 c3_0 c3_1 c3_2 c3_3
  refine (div_raw 1 a E false 1 b E false 1 q E false sDone _ HDIV.out).mono ?_
  rintro e w5 ⟨rfl, hb5⟩
  have HB5 := Lib.hid (show Below w.heap.size w w5 from HBX4.out.trans (hb5.mono HBX4.out.size))
  have Q0_5 := Lib.hid ((hb5.block w1.heap.size (Array.getElem?_eq_some_iff.1 P0_4.out).1).trans P0_4.out)
  have Q1_5 := Lib.hid ((hb5.block w2.heap.size (Array.getElem?_eq_some_iff.1 P1_4.out).1).trans P1_4.out)
  have Q2_5 := Lib.hid ((hb5.block w3.heap.size (Array.getElem?_eq_some_iff.1 P2_4.out).1).trans P2_4.out)
  have Q3_5 := Lib.hid ((hb5.block w4.heap.size (Array.getElem?_eq_some_iff.1 P3_4.out).1).trans P3_4.out)
  have HBX5 := Lib.hid (HB5.out.alloc HB5.out.size (.cells #[.int .i64 1, .int .i64 q, .string E, .bool false] 28))
  have P0_5 := Lib.hid (((World.grownBy_alloc w5 (.cells #[.int .i64 1, .int .i64 q, .string E, .bool false] 28) none).block w1.heap.size (Array.getElem?_eq_some_iff.1 Q0_5.out).1 (by simp)).trans Q0_5.out)
  have P1_5 := Lib.hid (((World.grownBy_alloc w5 (.cells #[.int .i64 1, .int .i64 q, .string E, .bool false] 28) none).block w2.heap.size (Array.getElem?_eq_some_iff.1 Q1_5.out).1 (by simp)).trans Q1_5.out)
  have P2_5 := Lib.hid (((World.grownBy_alloc w5 (.cells #[.int .i64 1, .int .i64 q, .string E, .bool false] 28) none).block w3.heap.size (Array.getElem?_eq_some_iff.1 Q2_5.out).1 (by simp)).trans Q2_5.out)
  have P3_5 := Lib.hid (((World.grownBy_alloc w5 (.cells #[.int .i64 1, .int .i64 q, .string E, .bool false] 28) none).block w4.heap.size (Array.getElem?_eq_some_iff.1 Q3_5.out).1 (by simp)).trans Q3_5.out)
  have P4_5 := Lib.hid (World.alloc_heap_new w5 (.cells #[.int .i64 1, .int .i64 q, .string E, .bool false] 28))
  have c4_0 := cell_fr (i := 0) P4_5.out rfl
  have c4_1 := cell_fr (i := 1) P4_5.out rfl
  have c4_2 := cell_fr (i := 2) P4_5.out rfl
  have c4_3 := cell_fr (i := 3) P4_5.out rfl
  have c1_0 := cell_fr (i := 0) P1_5.out rfl
  have c1_1 := cell_fr (i := 1) P1_5.out rfl
  have c1_2 := cell_fr (i := 2) P1_5.out rfl
  have c1_3 := cell_fr (i := 3) P1_5.out rfl
  clear hb5
  go_wp2_with fail
  clear c4_0 c4_1 c4_2 c4_3 c1_0 c1_1 c1_2 c1_3
  refine (mul_raw 1 q E false 1 b E false 1 p E false sDone _ HFQ.out HFB.out HMUL.out).mono ?_
  rintro e w6 ⟨rfl, hb6⟩
  have HB6 := Lib.hid (show Below w.heap.size w w6 from HBX5.out.trans (hb6.mono HBX5.out.size))
  have Q0_6 := Lib.hid ((hb6.block w1.heap.size (Array.getElem?_eq_some_iff.1 P0_5.out).1).trans P0_5.out)
  have Q1_6 := Lib.hid ((hb6.block w2.heap.size (Array.getElem?_eq_some_iff.1 P1_5.out).1).trans P1_5.out)
  have Q2_6 := Lib.hid ((hb6.block w3.heap.size (Array.getElem?_eq_some_iff.1 P2_5.out).1).trans P2_5.out)
  have Q3_6 := Lib.hid ((hb6.block w4.heap.size (Array.getElem?_eq_some_iff.1 P3_5.out).1).trans P3_5.out)
  have Q4_6 := Lib.hid ((hb6.block w5.heap.size (Array.getElem?_eq_some_iff.1 P4_5.out).1).trans P4_5.out)
  have HBX6 := Lib.hid (HB6.out.alloc HB6.out.size (.cells #[.int .i64 1, .int .i64 p, .string E, .bool false] 28))
  have P0_6 := Lib.hid (((World.grownBy_alloc w6 (.cells #[.int .i64 1, .int .i64 p, .string E, .bool false] 28) none).block w1.heap.size (Array.getElem?_eq_some_iff.1 Q0_6.out).1 (by simp)).trans Q0_6.out)
  have P1_6 := Lib.hid (((World.grownBy_alloc w6 (.cells #[.int .i64 1, .int .i64 p, .string E, .bool false] 28) none).block w2.heap.size (Array.getElem?_eq_some_iff.1 Q1_6.out).1 (by simp)).trans Q1_6.out)
  have P2_6 := Lib.hid (((World.grownBy_alloc w6 (.cells #[.int .i64 1, .int .i64 p, .string E, .bool false] 28) none).block w3.heap.size (Array.getElem?_eq_some_iff.1 Q2_6.out).1 (by simp)).trans Q2_6.out)
  have P3_6 := Lib.hid (((World.grownBy_alloc w6 (.cells #[.int .i64 1, .int .i64 p, .string E, .bool false] 28) none).block w4.heap.size (Array.getElem?_eq_some_iff.1 Q3_6.out).1 (by simp)).trans Q3_6.out)
  have P4_6 := Lib.hid (((World.grownBy_alloc w6 (.cells #[.int .i64 1, .int .i64 p, .string E, .bool false] 28) none).block w5.heap.size (Array.getElem?_eq_some_iff.1 Q4_6.out).1 (by simp)).trans Q4_6.out)
  have P5_6 := Lib.hid (World.alloc_heap_new w6 (.cells #[.int .i64 1, .int .i64 p, .string E, .bool false] 28))
  have c0_0 := cell_fr (i := 0) P0_6.out rfl
  have c0_1 := cell_fr (i := 1) P0_6.out rfl
  have c0_2 := cell_fr (i := 2) P0_6.out rfl
  have c0_3 := cell_fr (i := 3) P0_6.out rfl
  have c5_0 := cell_fr (i := 0) P5_6.out rfl
  have c5_1 := cell_fr (i := 1) P5_6.out rfl
  have c5_2 := cell_fr (i := 2) P5_6.out rfl
  have c5_3 := cell_fr (i := 3) P5_6.out rfl
  clear hb6
  go_wp2_with fail
  clear c0_0 c0_1 c0_2 c0_3 c5_0 c5_1 c5_2 c5_3
  refine (sub_raw 1 a E false 1 p E false 1 r E false sDone _ HSUB.out).mono ?_
  rintro e w7 ⟨rfl, hb7⟩
  have HB7 := Lib.hid (show Below w.heap.size w w7 from HBX6.out.trans (hb7.mono HBX6.out.size))
  have Q0_7 := Lib.hid ((hb7.block w1.heap.size (Array.getElem?_eq_some_iff.1 P0_6.out).1).trans P0_6.out)
  have Q1_7 := Lib.hid ((hb7.block w2.heap.size (Array.getElem?_eq_some_iff.1 P1_6.out).1).trans P1_6.out)
  have Q2_7 := Lib.hid ((hb7.block w3.heap.size (Array.getElem?_eq_some_iff.1 P2_6.out).1).trans P2_6.out)
  have Q3_7 := Lib.hid ((hb7.block w4.heap.size (Array.getElem?_eq_some_iff.1 P3_6.out).1).trans P3_6.out)
  have Q4_7 := Lib.hid ((hb7.block w5.heap.size (Array.getElem?_eq_some_iff.1 P4_6.out).1).trans P4_6.out)
  have Q5_7 := Lib.hid ((hb7.block w6.heap.size (Array.getElem?_eq_some_iff.1 P5_6.out).1).trans P5_6.out)
  have HBX7 := Lib.hid (HB7.out.alloc HB7.out.size (.cells #[.int .i64 1, .int .i64 r, .string E, .bool false] 28))
  have P0_7 := Lib.hid (((World.grownBy_alloc w7 (.cells #[.int .i64 1, .int .i64 r, .string E, .bool false] 28) none).block w1.heap.size (Array.getElem?_eq_some_iff.1 Q0_7.out).1 (by simp)).trans Q0_7.out)
  have P1_7 := Lib.hid (((World.grownBy_alloc w7 (.cells #[.int .i64 1, .int .i64 r, .string E, .bool false] 28) none).block w2.heap.size (Array.getElem?_eq_some_iff.1 Q1_7.out).1 (by simp)).trans Q1_7.out)
  have P2_7 := Lib.hid (((World.grownBy_alloc w7 (.cells #[.int .i64 1, .int .i64 r, .string E, .bool false] 28) none).block w3.heap.size (Array.getElem?_eq_some_iff.1 Q2_7.out).1 (by simp)).trans Q2_7.out)
  have P3_7 := Lib.hid (((World.grownBy_alloc w7 (.cells #[.int .i64 1, .int .i64 r, .string E, .bool false] 28) none).block w4.heap.size (Array.getElem?_eq_some_iff.1 Q3_7.out).1 (by simp)).trans Q3_7.out)
  have P4_7 := Lib.hid (((World.grownBy_alloc w7 (.cells #[.int .i64 1, .int .i64 r, .string E, .bool false] 28) none).block w5.heap.size (Array.getElem?_eq_some_iff.1 Q4_7.out).1 (by simp)).trans Q4_7.out)
  have P5_7 := Lib.hid (((World.grownBy_alloc w7 (.cells #[.int .i64 1, .int .i64 r, .string E, .bool false] 28) none).block w6.heap.size (Array.getElem?_eq_some_iff.1 Q5_7.out).1 (by simp)).trans Q5_7.out)
  have P6_7 := Lib.hid (World.alloc_heap_new w7 (.cells #[.int .i64 1, .int .i64 r, .string E, .bool false] 28))
  have c6_0 := cell_fr (i := 0) P6_7.out rfl
  have c6_1 := cell_fr (i := 1) P6_7.out rfl
  have c6_2 := cell_fr (i := 2) P6_7.out rfl
  have c6_3 := cell_fr (i := 3) P6_7.out rfl
  clear hb7
  go_wp2_with fail
  clear c6_0 c6_1 c6_2 c6_3
  refine (alive_w _).mono ?_
  rintro e w8 ⟨rfl, hb8⟩
  have HB8 := Lib.hid (show Below w.heap.size w w8 from HBX7.out.trans (hb8.mono HBX7.out.size))
  have Q0_8 := Lib.hid ((hb8.block w1.heap.size (Array.getElem?_eq_some_iff.1 P0_7.out).1).trans P0_7.out)
  have Q1_8 := Lib.hid ((hb8.block w2.heap.size (Array.getElem?_eq_some_iff.1 P1_7.out).1).trans P1_7.out)
  have Q2_8 := Lib.hid ((hb8.block w3.heap.size (Array.getElem?_eq_some_iff.1 P2_7.out).1).trans P2_7.out)
  have Q3_8 := Lib.hid ((hb8.block w4.heap.size (Array.getElem?_eq_some_iff.1 P3_7.out).1).trans P3_7.out)
  have Q4_8 := Lib.hid ((hb8.block w5.heap.size (Array.getElem?_eq_some_iff.1 P4_7.out).1).trans P4_7.out)
  have Q5_8 := Lib.hid ((hb8.block w6.heap.size (Array.getElem?_eq_some_iff.1 P5_7.out).1).trans P5_7.out)
  have Q6_8 := Lib.hid ((hb8.block w7.heap.size (Array.getElem?_eq_some_iff.1 P6_7.out).1).trans P6_7.out)
  have HBX8 := HB8
  have P0_8 := Q0_8
  have P1_8 := Q1_8
  have P2_8 := Q2_8
  have P3_8 := Q3_8
  have P4_8 := Q4_8
  have P5_8 := Q5_8
  have P6_8 := Q6_8
  clear hb8
  go_wp2_with fail
  go_ret
  exact ⟨rfl, HB8.out⟩
set_option maxHeartbeats 2000000 in
set_option maxRecDepth 100000 in
theorem num_zero_n (a b : Int) (w : World) (HADD : Hid (liftF 1 1 1 (addF a b) = (0, 0, E, false, sRange))) (HB : Hid (b = 0)) (HDIV : Hid (liftF 1 1 1 (divF a b) = (0, 0, E, false, ⟨#[50, 50, 48, 49, 50]⟩))) : Calls Tryd.prog 8 #[.int .i64 a, .int .i64 b] w fun e w' => e = .returned (.bool true) ∧ Below w.heap.size w w' := by
  have t1 : (b == 0) = true := beq_iff_eq.2 HB.out
  go_enter Tryd.func8, Tryd.ntmps8
  go_wp2_with fail
  refine (num30 a _).mono ?_
  rintro e w1 ⟨rfl, hb1⟩
  have HB1 := Lib.hid (show Below w.heap.size w w1 from hb1)
  have HBX1 := Lib.hid (HB1.out.alloc HB1.out.size (.cells #[.int .i64 1, .int .i64 a, .string E, .bool false] 28))
  have P0_1 := Lib.hid (World.alloc_heap_new w1 (.cells #[.int .i64 1, .int .i64 a, .string E, .bool false] 28))
  clear hb1
  go_wp2_with fail
  refine (num30 b _).mono ?_
  rintro e w2 ⟨rfl, hb2⟩
  have HB2 := Lib.hid (show Below w.heap.size w w2 from HBX1.out.trans (hb2.mono HBX1.out.size))
  have Q0_2 := Lib.hid ((hb2.block w1.heap.size (Array.getElem?_eq_some_iff.1 P0_1.out).1).trans P0_1.out)
  have HBX2 := Lib.hid (HB2.out.alloc HB2.out.size (.cells #[.int .i64 1, .int .i64 b, .string E, .bool false] 28))
  have P0_2 := Lib.hid (((World.grownBy_alloc w2 (.cells #[.int .i64 1, .int .i64 b, .string E, .bool false] 28) none).block w1.heap.size (Array.getElem?_eq_some_iff.1 Q0_2.out).1 (by simp)).trans Q0_2.out)
  have P1_2 := Lib.hid (World.alloc_heap_new w2 (.cells #[.int .i64 1, .int .i64 b, .string E, .bool false] 28))
  have c0_0 := cell_fr (i := 0) P0_2.out rfl
  have c0_1 := cell_fr (i := 1) P0_2.out rfl
  have c0_2 := cell_fr (i := 2) P0_2.out rfl
  have c0_3 := cell_fr (i := 3) P0_2.out rfl
  have c1_0 := cell_fr (i := 0) P1_2.out rfl
  have c1_1 := cell_fr (i := 1) P1_2.out rfl
  have c1_2 := cell_fr (i := 2) P1_2.out rfl
  have c1_3 := cell_fr (i := 3) P1_2.out rfl
  clear hb2
  go_wp2_with fail
  clear c0_0 c0_1 c0_2 c0_3 c1_0 c1_1 c1_2 c1_3
  refine (add_raw 1 a E false 1 b E false 0 0 E false sRange _ HADD.out).mono ?_
  rintro e w3 ⟨rfl, hb3⟩
  have HB3 := Lib.hid (show Below w.heap.size w w3 from HBX2.out.trans (hb3.mono HBX2.out.size))
  have Q0_3 := Lib.hid ((hb3.block w1.heap.size (Array.getElem?_eq_some_iff.1 P0_2.out).1).trans P0_2.out)
  have Q1_3 := Lib.hid ((hb3.block w2.heap.size (Array.getElem?_eq_some_iff.1 P1_2.out).1).trans P1_2.out)
  have HBX3 := Lib.hid (HB3.out.alloc HB3.out.size (.cells #[.int .i64 0, .int .i64 0, .string E, .bool false] 28))
  have P0_3 := Lib.hid (((World.grownBy_alloc w3 (.cells #[.int .i64 0, .int .i64 0, .string E, .bool false] 28) none).block w1.heap.size (Array.getElem?_eq_some_iff.1 Q0_3.out).1 (by simp)).trans Q0_3.out)
  have P1_3 := Lib.hid (((World.grownBy_alloc w3 (.cells #[.int .i64 0, .int .i64 0, .string E, .bool false] 28) none).block w2.heap.size (Array.getElem?_eq_some_iff.1 Q1_3.out).1 (by simp)).trans Q1_3.out)
  have P2_3 := Lib.hid (World.alloc_heap_new w3 (.cells #[.int .i64 0, .int .i64 0, .string E, .bool false] 28))
  have c0_0 := cell_fr (i := 0) P0_3.out rfl
  have c0_1 := cell_fr (i := 1) P0_3.out rfl
  have c0_2 := cell_fr (i := 2) P0_3.out rfl
  have c0_3 := cell_fr (i := 3) P0_3.out rfl
  have c1_0 := cell_fr (i := 0) P1_3.out rfl
  have c1_1 := cell_fr (i := 1) P1_3.out rfl
  have c1_2 := cell_fr (i := 2) P1_3.out rfl
  have c1_3 := cell_fr (i := 3) P1_3.out rfl
  clear hb3
  go_wp2_with fail
  clear c0_0 c0_1 c0_2 c0_3 c1_0 c1_1 c1_2 c1_3
  refine (div_raw 1 a E false 1 b E false 0 0 E false ⟨#[50, 50, 48, 49, 50]⟩ _ HDIV.out).mono ?_
  rintro e w4 ⟨rfl, hb4⟩
  have HB4 := Lib.hid (show Below w.heap.size w w4 from HBX3.out.trans (hb4.mono HBX3.out.size))
  have Q0_4 := Lib.hid ((hb4.block w1.heap.size (Array.getElem?_eq_some_iff.1 P0_3.out).1).trans P0_3.out)
  have Q1_4 := Lib.hid ((hb4.block w2.heap.size (Array.getElem?_eq_some_iff.1 P1_3.out).1).trans P1_3.out)
  have Q2_4 := Lib.hid ((hb4.block w3.heap.size (Array.getElem?_eq_some_iff.1 P2_3.out).1).trans P2_3.out)
  have HBX4 := Lib.hid (HB4.out.alloc HB4.out.size (.cells #[.int .i64 0, .int .i64 0, .string E, .bool false] 28))
  have P0_4 := Lib.hid (((World.grownBy_alloc w4 (.cells #[.int .i64 0, .int .i64 0, .string E, .bool false] 28) none).block w1.heap.size (Array.getElem?_eq_some_iff.1 Q0_4.out).1 (by simp)).trans Q0_4.out)
  have P1_4 := Lib.hid (((World.grownBy_alloc w4 (.cells #[.int .i64 0, .int .i64 0, .string E, .bool false] 28) none).block w2.heap.size (Array.getElem?_eq_some_iff.1 Q1_4.out).1 (by simp)).trans Q1_4.out)
  have P2_4 := Lib.hid (((World.grownBy_alloc w4 (.cells #[.int .i64 0, .int .i64 0, .string E, .bool false] 28) none).block w3.heap.size (Array.getElem?_eq_some_iff.1 Q2_4.out).1 (by simp)).trans Q2_4.out)
  have P3_4 := Lib.hid (World.alloc_heap_new w4 (.cells #[.int .i64 0, .int .i64 0, .string E, .bool false] 28))
  clear hb4
  go_wp2_with fail
  refine (alive_w _).mono ?_
  rintro e w5 ⟨rfl, hb5⟩
  have HB5 := Lib.hid (show Below w.heap.size w w5 from HBX4.out.trans (hb5.mono HBX4.out.size))
  have Q0_5 := Lib.hid ((hb5.block w1.heap.size (Array.getElem?_eq_some_iff.1 P0_4.out).1).trans P0_4.out)
  have Q1_5 := Lib.hid ((hb5.block w2.heap.size (Array.getElem?_eq_some_iff.1 P1_4.out).1).trans P1_4.out)
  have Q2_5 := Lib.hid ((hb5.block w3.heap.size (Array.getElem?_eq_some_iff.1 P2_4.out).1).trans P2_4.out)
  have Q3_5 := Lib.hid ((hb5.block w4.heap.size (Array.getElem?_eq_some_iff.1 P3_4.out).1).trans P3_4.out)
  have HBX5 := HB5
  have P0_5 := Q0_5
  have P1_5 := Q1_5
  have P2_5 := Q2_5
  have P3_5 := Q3_5
  clear hb5
  go_wp2_with fail
  go_ret
  exact ⟨rfl, HB5.out⟩
set_option maxHeartbeats 2000000 in
set_option maxRecDepth 100000 in
theorem num_no_n (a b : Int) (w : World) (HADD : Hid (liftF 1 1 1 (addF a b) = (0, 0, E, false, sRange))) (HB : Hid (b = -1)) (HDIV : Hid (liftF 1 1 1 (divF a b) = (0, 0, E, false, sRange))) : Calls Tryd.prog 8 #[.int .i64 a, .int .i64 b] w fun e w' => e = .returned (.bool true) ∧ Below w.heap.size w w' := by
  have t1 : (b == 0) = false := by rw [HB.out]; rfl
  have t2 : (b == -1) = true := beq_iff_eq.2 HB.out
  go_enter Tryd.func8, Tryd.ntmps8
  go_wp2_with fail
  refine (num30 a _).mono ?_
  rintro e w1 ⟨rfl, hb1⟩
  have HB1 := Lib.hid (show Below w.heap.size w w1 from hb1)
  have HBX1 := Lib.hid (HB1.out.alloc HB1.out.size (.cells #[.int .i64 1, .int .i64 a, .string E, .bool false] 28))
  have P0_1 := Lib.hid (World.alloc_heap_new w1 (.cells #[.int .i64 1, .int .i64 a, .string E, .bool false] 28))
  clear hb1
  go_wp2_with fail
  refine (num30 b _).mono ?_
  rintro e w2 ⟨rfl, hb2⟩
  have HB2 := Lib.hid (show Below w.heap.size w w2 from HBX1.out.trans (hb2.mono HBX1.out.size))
  have Q0_2 := Lib.hid ((hb2.block w1.heap.size (Array.getElem?_eq_some_iff.1 P0_1.out).1).trans P0_1.out)
  have HBX2 := Lib.hid (HB2.out.alloc HB2.out.size (.cells #[.int .i64 1, .int .i64 b, .string E, .bool false] 28))
  have P0_2 := Lib.hid (((World.grownBy_alloc w2 (.cells #[.int .i64 1, .int .i64 b, .string E, .bool false] 28) none).block w1.heap.size (Array.getElem?_eq_some_iff.1 Q0_2.out).1 (by simp)).trans Q0_2.out)
  have P1_2 := Lib.hid (World.alloc_heap_new w2 (.cells #[.int .i64 1, .int .i64 b, .string E, .bool false] 28))
  have c0_0 := cell_fr (i := 0) P0_2.out rfl
  have c0_1 := cell_fr (i := 1) P0_2.out rfl
  have c0_2 := cell_fr (i := 2) P0_2.out rfl
  have c0_3 := cell_fr (i := 3) P0_2.out rfl
  have c1_0 := cell_fr (i := 0) P1_2.out rfl
  have c1_1 := cell_fr (i := 1) P1_2.out rfl
  have c1_2 := cell_fr (i := 2) P1_2.out rfl
  have c1_3 := cell_fr (i := 3) P1_2.out rfl
  clear hb2
  go_wp2_with fail
  clear c0_0 c0_1 c0_2 c0_3 c1_0 c1_1 c1_2 c1_3
  refine (add_raw 1 a E false 1 b E false 0 0 E false sRange _ HADD.out).mono ?_
  rintro e w3 ⟨rfl, hb3⟩
  have HB3 := Lib.hid (show Below w.heap.size w w3 from HBX2.out.trans (hb3.mono HBX2.out.size))
  have Q0_3 := Lib.hid ((hb3.block w1.heap.size (Array.getElem?_eq_some_iff.1 P0_2.out).1).trans P0_2.out)
  have Q1_3 := Lib.hid ((hb3.block w2.heap.size (Array.getElem?_eq_some_iff.1 P1_2.out).1).trans P1_2.out)
  have HBX3 := Lib.hid (HB3.out.alloc HB3.out.size (.cells #[.int .i64 0, .int .i64 0, .string E, .bool false] 28))
  have P0_3 := Lib.hid (((World.grownBy_alloc w3 (.cells #[.int .i64 0, .int .i64 0, .string E, .bool false] 28) none).block w1.heap.size (Array.getElem?_eq_some_iff.1 Q0_3.out).1 (by simp)).trans Q0_3.out)
  have P1_3 := Lib.hid (((World.grownBy_alloc w3 (.cells #[.int .i64 0, .int .i64 0, .string E, .bool false] 28) none).block w2.heap.size (Array.getElem?_eq_some_iff.1 Q1_3.out).1 (by simp)).trans Q1_3.out)
  have P2_3 := Lib.hid (World.alloc_heap_new w3 (.cells #[.int .i64 0, .int .i64 0, .string E, .bool false] 28))
  have c0_0 := cell_fr (i := 0) P0_3.out rfl
  have c0_1 := cell_fr (i := 1) P0_3.out rfl
  have c0_2 := cell_fr (i := 2) P0_3.out rfl
  have c0_3 := cell_fr (i := 3) P0_3.out rfl
  have c1_0 := cell_fr (i := 0) P1_3.out rfl
  have c1_1 := cell_fr (i := 1) P1_3.out rfl
  have c1_2 := cell_fr (i := 2) P1_3.out rfl
  have c1_3 := cell_fr (i := 3) P1_3.out rfl
  clear hb3
  go_wp2_with fail
  clear c0_0 c0_1 c0_2 c0_3 c1_0 c1_1 c1_2 c1_3
  refine (div_raw 1 a E false 1 b E false 0 0 E false sRange _ HDIV.out).mono ?_
  rintro e w4 ⟨rfl, hb4⟩
  have HB4 := Lib.hid (show Below w.heap.size w w4 from HBX3.out.trans (hb4.mono HBX3.out.size))
  have Q0_4 := Lib.hid ((hb4.block w1.heap.size (Array.getElem?_eq_some_iff.1 P0_3.out).1).trans P0_3.out)
  have Q1_4 := Lib.hid ((hb4.block w2.heap.size (Array.getElem?_eq_some_iff.1 P1_3.out).1).trans P1_3.out)
  have Q2_4 := Lib.hid ((hb4.block w3.heap.size (Array.getElem?_eq_some_iff.1 P2_3.out).1).trans P2_3.out)
  have HBX4 := Lib.hid (HB4.out.alloc HB4.out.size (.cells #[.int .i64 0, .int .i64 0, .string E, .bool false] 28))
  have P0_4 := Lib.hid (((World.grownBy_alloc w4 (.cells #[.int .i64 0, .int .i64 0, .string E, .bool false] 28) none).block w1.heap.size (Array.getElem?_eq_some_iff.1 Q0_4.out).1 (by simp)).trans Q0_4.out)
  have P1_4 := Lib.hid (((World.grownBy_alloc w4 (.cells #[.int .i64 0, .int .i64 0, .string E, .bool false] 28) none).block w2.heap.size (Array.getElem?_eq_some_iff.1 Q1_4.out).1 (by simp)).trans Q1_4.out)
  have P2_4 := Lib.hid (((World.grownBy_alloc w4 (.cells #[.int .i64 0, .int .i64 0, .string E, .bool false] 28) none).block w3.heap.size (Array.getElem?_eq_some_iff.1 Q2_4.out).1 (by simp)).trans Q2_4.out)
  have P3_4 := Lib.hid (World.alloc_heap_new w4 (.cells #[.int .i64 0, .int .i64 0, .string E, .bool false] 28))
  clear hb4
  go_wp2_with fail
  refine (alive_w _).mono ?_
  rintro e w5 ⟨rfl, hb5⟩
  have HB5 := Lib.hid (show Below w.heap.size w w5 from HBX4.out.trans (hb5.mono HBX4.out.size))
  have Q0_5 := Lib.hid ((hb5.block w1.heap.size (Array.getElem?_eq_some_iff.1 P0_4.out).1).trans P0_4.out)
  have Q1_5 := Lib.hid ((hb5.block w2.heap.size (Array.getElem?_eq_some_iff.1 P1_4.out).1).trans P1_4.out)
  have Q2_5 := Lib.hid ((hb5.block w3.heap.size (Array.getElem?_eq_some_iff.1 P2_4.out).1).trans P2_4.out)
  have Q3_5 := Lib.hid ((hb5.block w4.heap.size (Array.getElem?_eq_some_iff.1 P3_4.out).1).trans P3_4.out)
  have HBX5 := HB5
  have P0_5 := Q0_5
  have P1_5 := Q1_5
  have P2_5 := Q2_5
  have P3_5 := Q3_5
  clear hb5
  go_wp2_with fail
  go_ret
  exact ⟨rfl, HB5.out⟩
set_option maxHeartbeats 2000000 in
set_option maxRecDepth 100000 in
theorem num_rz_n (a b q p r : Int) (w : World) (HADD : Hid (liftF 1 1 1 (addF a b) = (0, 0, E, false, sRange))) (HDIV : Hid (liftF 1 1 1 (divF a b) = (1, q, E, false, sDone))) (HFQ : Hid (Fit q)) (HFB : Hid (Fit b)) (HMUL : Hid (liftF 1 1 1 (mulF q b) = (1, p, E, false, sDone))) (HSUB : Hid (liftF 1 1 1 (subF a p) = (1, r, E, false, sDone))) (t1 : (r == 0) = true) : Calls Tryd.prog 8 #[.int .i64 a, .int .i64 b] w fun e w' => e = .returned (.bool true) ∧ Below w.heap.size w w' := by
  go_enter Tryd.func8, Tryd.ntmps8
  go_wp2_with fail
  refine (num30 a _).mono ?_
  rintro e w1 ⟨rfl, hb1⟩
  have HB1 := Lib.hid (show Below w.heap.size w w1 from hb1)
  have HBX1 := Lib.hid (HB1.out.alloc HB1.out.size (.cells #[.int .i64 1, .int .i64 a, .string E, .bool false] 28))
  have P0_1 := Lib.hid (World.alloc_heap_new w1 (.cells #[.int .i64 1, .int .i64 a, .string E, .bool false] 28))
  clear hb1
  go_wp2_with fail
  refine (num30 b _).mono ?_
  rintro e w2 ⟨rfl, hb2⟩
  have HB2 := Lib.hid (show Below w.heap.size w w2 from HBX1.out.trans (hb2.mono HBX1.out.size))
  have Q0_2 := Lib.hid ((hb2.block w1.heap.size (Array.getElem?_eq_some_iff.1 P0_1.out).1).trans P0_1.out)
  have HBX2 := Lib.hid (HB2.out.alloc HB2.out.size (.cells #[.int .i64 1, .int .i64 b, .string E, .bool false] 28))
  have P0_2 := Lib.hid (((World.grownBy_alloc w2 (.cells #[.int .i64 1, .int .i64 b, .string E, .bool false] 28) none).block w1.heap.size (Array.getElem?_eq_some_iff.1 Q0_2.out).1 (by simp)).trans Q0_2.out)
  have P1_2 := Lib.hid (World.alloc_heap_new w2 (.cells #[.int .i64 1, .int .i64 b, .string E, .bool false] 28))
  have c0_0 := cell_fr (i := 0) P0_2.out rfl
  have c0_1 := cell_fr (i := 1) P0_2.out rfl
  have c0_2 := cell_fr (i := 2) P0_2.out rfl
  have c0_3 := cell_fr (i := 3) P0_2.out rfl
  have c1_0 := cell_fr (i := 0) P1_2.out rfl
  have c1_1 := cell_fr (i := 1) P1_2.out rfl
  have c1_2 := cell_fr (i := 2) P1_2.out rfl
  have c1_3 := cell_fr (i := 3) P1_2.out rfl
  clear hb2
  go_wp2_with fail
  clear c0_0 c0_1 c0_2 c0_3 c1_0 c1_1 c1_2 c1_3
  refine (add_raw 1 a E false 1 b E false 0 0 E false sRange _ HADD.out).mono ?_
  rintro e w3 ⟨rfl, hb3⟩
  have HB3 := Lib.hid (show Below w.heap.size w w3 from HBX2.out.trans (hb3.mono HBX2.out.size))
  have Q0_3 := Lib.hid ((hb3.block w1.heap.size (Array.getElem?_eq_some_iff.1 P0_2.out).1).trans P0_2.out)
  have Q1_3 := Lib.hid ((hb3.block w2.heap.size (Array.getElem?_eq_some_iff.1 P1_2.out).1).trans P1_2.out)
  have HBX3 := Lib.hid (HB3.out.alloc HB3.out.size (.cells #[.int .i64 0, .int .i64 0, .string E, .bool false] 28))
  have P0_3 := Lib.hid (((World.grownBy_alloc w3 (.cells #[.int .i64 0, .int .i64 0, .string E, .bool false] 28) none).block w1.heap.size (Array.getElem?_eq_some_iff.1 Q0_3.out).1 (by simp)).trans Q0_3.out)
  have P1_3 := Lib.hid (((World.grownBy_alloc w3 (.cells #[.int .i64 0, .int .i64 0, .string E, .bool false] 28) none).block w2.heap.size (Array.getElem?_eq_some_iff.1 Q1_3.out).1 (by simp)).trans Q1_3.out)
  have P2_3 := Lib.hid (World.alloc_heap_new w3 (.cells #[.int .i64 0, .int .i64 0, .string E, .bool false] 28))
  have c0_0 := cell_fr (i := 0) P0_3.out rfl
  have c0_1 := cell_fr (i := 1) P0_3.out rfl
  have c0_2 := cell_fr (i := 2) P0_3.out rfl
  have c0_3 := cell_fr (i := 3) P0_3.out rfl
  have c1_0 := cell_fr (i := 0) P1_3.out rfl
  have c1_1 := cell_fr (i := 1) P1_3.out rfl
  have c1_2 := cell_fr (i := 2) P1_3.out rfl
  have c1_3 := cell_fr (i := 3) P1_3.out rfl
  clear hb3
  go_wp2_with fail
  clear c0_0 c0_1 c0_2 c0_3 c1_0 c1_1 c1_2 c1_3
  refine (div_raw 1 a E false 1 b E false 1 q E false sDone _ HDIV.out).mono ?_
  rintro e w4 ⟨rfl, hb4⟩
  have HB4 := Lib.hid (show Below w.heap.size w w4 from HBX3.out.trans (hb4.mono HBX3.out.size))
  have Q0_4 := Lib.hid ((hb4.block w1.heap.size (Array.getElem?_eq_some_iff.1 P0_3.out).1).trans P0_3.out)
  have Q1_4 := Lib.hid ((hb4.block w2.heap.size (Array.getElem?_eq_some_iff.1 P1_3.out).1).trans P1_3.out)
  have Q2_4 := Lib.hid ((hb4.block w3.heap.size (Array.getElem?_eq_some_iff.1 P2_3.out).1).trans P2_3.out)
  have HBX4 := Lib.hid (HB4.out.alloc HB4.out.size (.cells #[.int .i64 1, .int .i64 q, .string E, .bool false] 28))
  have P0_4 := Lib.hid (((World.grownBy_alloc w4 (.cells #[.int .i64 1, .int .i64 q, .string E, .bool false] 28) none).block w1.heap.size (Array.getElem?_eq_some_iff.1 Q0_4.out).1 (by simp)).trans Q0_4.out)
  have P1_4 := Lib.hid (((World.grownBy_alloc w4 (.cells #[.int .i64 1, .int .i64 q, .string E, .bool false] 28) none).block w2.heap.size (Array.getElem?_eq_some_iff.1 Q1_4.out).1 (by simp)).trans Q1_4.out)
  have P2_4 := Lib.hid (((World.grownBy_alloc w4 (.cells #[.int .i64 1, .int .i64 q, .string E, .bool false] 28) none).block w3.heap.size (Array.getElem?_eq_some_iff.1 Q2_4.out).1 (by simp)).trans Q2_4.out)
  have P3_4 := Lib.hid (World.alloc_heap_new w4 (.cells #[.int .i64 1, .int .i64 q, .string E, .bool false] 28))
  have c3_0 := cell_fr (i := 0) P3_4.out rfl
  have c3_1 := cell_fr (i := 1) P3_4.out rfl
  have c3_2 := cell_fr (i := 2) P3_4.out rfl
  have c3_3 := cell_fr (i := 3) P3_4.out rfl
  have c1_0 := cell_fr (i := 0) P1_4.out rfl
  have c1_1 := cell_fr (i := 1) P1_4.out rfl
  have c1_2 := cell_fr (i := 2) P1_4.out rfl
  have c1_3 := cell_fr (i := 3) P1_4.out rfl
  clear hb4
  go_wp2_with fail
  clear c3_0 c3_1 c3_2 c3_3 c1_0 c1_1 c1_2 c1_3
  refine (mul_raw 1 q E false 1 b E false 1 p E false sDone _ HFQ.out HFB.out HMUL.out).mono ?_
  rintro e w5 ⟨rfl, hb5⟩
  have HB5 := Lib.hid (show Below w.heap.size w w5 from HBX4.out.trans (hb5.mono HBX4.out.size))
  have Q0_5 := Lib.hid ((hb5.block w1.heap.size (Array.getElem?_eq_some_iff.1 P0_4.out).1).trans P0_4.out)
  have Q1_5 := Lib.hid ((hb5.block w2.heap.size (Array.getElem?_eq_some_iff.1 P1_4.out).1).trans P1_4.out)
  have Q2_5 := Lib.hid ((hb5.block w3.heap.size (Array.getElem?_eq_some_iff.1 P2_4.out).1).trans P2_4.out)
  have Q3_5 := Lib.hid ((hb5.block w4.heap.size (Array.getElem?_eq_some_iff.1 P3_4.out).1).trans P3_4.out)
  have HBX5 := Lib.hid (HB5.out.alloc HB5.out.size (.cells #[.int .i64 1, .int .i64 p, .string E, .bool false] 28))
  have P0_5 := Lib.hid (((World.grownBy_alloc w5 (.cells #[.int .i64 1, .int .i64 p, .string E, .bool false] 28) none).block w1.heap.size (Array.getElem?_eq_some_iff.1 Q0_5.out).1 (by simp)).trans Q0_5.out)
  have P1_5 := Lib.hid (((World.grownBy_alloc w5 (.cells #[.int .i64 1, .int .i64 p, .string E, .bool false] 28) none).block w2.heap.size (Array.getElem?_eq_some_iff.1 Q1_5.out).1 (by simp)).trans Q1_5.out)
  have P2_5 := Lib.hid (((World.grownBy_alloc w5 (.cells #[.int .i64 1, .int .i64 p, .string E, .bool false] 28) none).block w3.heap.size (Array.getElem?_eq_some_iff.1 Q2_5.out).1 (by simp)).trans Q2_5.out)
  have P3_5 := Lib.hid (((World.grownBy_alloc w5 (.cells #[.int .i64 1, .int .i64 p, .string E, .bool false] 28) none).block w4.heap.size (Array.getElem?_eq_some_iff.1 Q3_5.out).1 (by simp)).trans Q3_5.out)
  have P4_5 := Lib.hid (World.alloc_heap_new w5 (.cells #[.int .i64 1, .int .i64 p, .string E, .bool false] 28))
  have c0_0 := cell_fr (i := 0) P0_5.out rfl
  have c0_1 := cell_fr (i := 1) P0_5.out rfl
  have c0_2 := cell_fr (i := 2) P0_5.out rfl
  have c0_3 := cell_fr (i := 3) P0_5.out rfl
  have c4_0 := cell_fr (i := 0) P4_5.out rfl
  have c4_1 := cell_fr (i := 1) P4_5.out rfl
  have c4_2 := cell_fr (i := 2) P4_5.out rfl
  have c4_3 := cell_fr (i := 3) P4_5.out rfl
  clear hb5
  go_wp2_with fail
  clear c0_0 c0_1 c0_2 c0_3 c4_0 c4_1 c4_2 c4_3
  refine (sub_raw 1 a E false 1 p E false 1 r E false sDone _ HSUB.out).mono ?_
  rintro e w6 ⟨rfl, hb6⟩
  have HB6 := Lib.hid (show Below w.heap.size w w6 from HBX5.out.trans (hb6.mono HBX5.out.size))
  have Q0_6 := Lib.hid ((hb6.block w1.heap.size (Array.getElem?_eq_some_iff.1 P0_5.out).1).trans P0_5.out)
  have Q1_6 := Lib.hid ((hb6.block w2.heap.size (Array.getElem?_eq_some_iff.1 P1_5.out).1).trans P1_5.out)
  have Q2_6 := Lib.hid ((hb6.block w3.heap.size (Array.getElem?_eq_some_iff.1 P2_5.out).1).trans P2_5.out)
  have Q3_6 := Lib.hid ((hb6.block w4.heap.size (Array.getElem?_eq_some_iff.1 P3_5.out).1).trans P3_5.out)
  have Q4_6 := Lib.hid ((hb6.block w5.heap.size (Array.getElem?_eq_some_iff.1 P4_5.out).1).trans P4_5.out)
  have HBX6 := Lib.hid (HB6.out.alloc HB6.out.size (.cells #[.int .i64 1, .int .i64 r, .string E, .bool false] 28))
  have P0_6 := Lib.hid (((World.grownBy_alloc w6 (.cells #[.int .i64 1, .int .i64 r, .string E, .bool false] 28) none).block w1.heap.size (Array.getElem?_eq_some_iff.1 Q0_6.out).1 (by simp)).trans Q0_6.out)
  have P1_6 := Lib.hid (((World.grownBy_alloc w6 (.cells #[.int .i64 1, .int .i64 r, .string E, .bool false] 28) none).block w2.heap.size (Array.getElem?_eq_some_iff.1 Q1_6.out).1 (by simp)).trans Q1_6.out)
  have P2_6 := Lib.hid (((World.grownBy_alloc w6 (.cells #[.int .i64 1, .int .i64 r, .string E, .bool false] 28) none).block w3.heap.size (Array.getElem?_eq_some_iff.1 Q2_6.out).1 (by simp)).trans Q2_6.out)
  have P3_6 := Lib.hid (((World.grownBy_alloc w6 (.cells #[.int .i64 1, .int .i64 r, .string E, .bool false] 28) none).block w4.heap.size (Array.getElem?_eq_some_iff.1 Q3_6.out).1 (by simp)).trans Q3_6.out)
  have P4_6 := Lib.hid (((World.grownBy_alloc w6 (.cells #[.int .i64 1, .int .i64 r, .string E, .bool false] 28) none).block w5.heap.size (Array.getElem?_eq_some_iff.1 Q4_6.out).1 (by simp)).trans Q4_6.out)
  have P5_6 := Lib.hid (World.alloc_heap_new w6 (.cells #[.int .i64 1, .int .i64 r, .string E, .bool false] 28))
  have c5_0 := cell_fr (i := 0) P5_6.out rfl
  have c5_1 := cell_fr (i := 1) P5_6.out rfl
  have c5_2 := cell_fr (i := 2) P5_6.out rfl
  have c5_3 := cell_fr (i := 3) P5_6.out rfl
  clear hb6
  go_wp2_with fail
  clear c5_0 c5_1 c5_2 c5_3
  refine (alive_w _).mono ?_
  rintro e w7 ⟨rfl, hb7⟩
  have HB7 := Lib.hid (show Below w.heap.size w w7 from HBX6.out.trans (hb7.mono HBX6.out.size))
  have Q0_7 := Lib.hid ((hb7.block w1.heap.size (Array.getElem?_eq_some_iff.1 P0_6.out).1).trans P0_6.out)
  have Q1_7 := Lib.hid ((hb7.block w2.heap.size (Array.getElem?_eq_some_iff.1 P1_6.out).1).trans P1_6.out)
  have Q2_7 := Lib.hid ((hb7.block w3.heap.size (Array.getElem?_eq_some_iff.1 P2_6.out).1).trans P2_6.out)
  have Q3_7 := Lib.hid ((hb7.block w4.heap.size (Array.getElem?_eq_some_iff.1 P3_6.out).1).trans P3_6.out)
  have Q4_7 := Lib.hid ((hb7.block w5.heap.size (Array.getElem?_eq_some_iff.1 P4_6.out).1).trans P4_6.out)
  have Q5_7 := Lib.hid ((hb7.block w6.heap.size (Array.getElem?_eq_some_iff.1 P5_6.out).1).trans P5_6.out)
  have HBX7 := HB7
  have P0_7 := Q0_7
  have P1_7 := Q1_7
  have P2_7 := Q2_7
  have P3_7 := Q3_7
  have P4_7 := Q4_7
  have P5_7 := Q5_7
  clear hb7
  go_wp2_with fail
  go_ret
  exact ⟨rfl, HB7.out⟩
set_option maxHeartbeats 2000000 in
set_option maxRecDepth 100000 in
theorem num_p1_n (a b q p r : Int) (w : World) (HADD : Hid (liftF 1 1 1 (addF a b) = (0, 0, E, false, sRange))) (HDIV : Hid (liftF 1 1 1 (divF a b) = (1, q, E, false, sDone))) (HFQ : Hid (Fit q)) (HFB : Hid (Fit b)) (HMUL : Hid (liftF 1 1 1 (mulF q b) = (1, p, E, false, sDone))) (HSUB : Hid (liftF 1 1 1 (subF a p) = (1, r, E, false, sDone))) (t1 : (r == 0) = false) (t2 : decide (0 < r) = true) (t3 : decide (0 < a) = true) (t4 : decide (r < b) = true) : Calls Tryd.prog 8 #[.int .i64 a, .int .i64 b] w fun e w' => e = .returned (.bool true) ∧ Below w.heap.size w w' := by
  go_enter Tryd.func8, Tryd.ntmps8
  go_wp2_with fail
  refine (num30 a _).mono ?_
  rintro e w1 ⟨rfl, hb1⟩
  have HB1 := Lib.hid (show Below w.heap.size w w1 from hb1)
  have HBX1 := Lib.hid (HB1.out.alloc HB1.out.size (.cells #[.int .i64 1, .int .i64 a, .string E, .bool false] 28))
  have P0_1 := Lib.hid (World.alloc_heap_new w1 (.cells #[.int .i64 1, .int .i64 a, .string E, .bool false] 28))
  clear hb1
  go_wp2_with fail
  refine (num30 b _).mono ?_
  rintro e w2 ⟨rfl, hb2⟩
  have HB2 := Lib.hid (show Below w.heap.size w w2 from HBX1.out.trans (hb2.mono HBX1.out.size))
  have Q0_2 := Lib.hid ((hb2.block w1.heap.size (Array.getElem?_eq_some_iff.1 P0_1.out).1).trans P0_1.out)
  have HBX2 := Lib.hid (HB2.out.alloc HB2.out.size (.cells #[.int .i64 1, .int .i64 b, .string E, .bool false] 28))
  have P0_2 := Lib.hid (((World.grownBy_alloc w2 (.cells #[.int .i64 1, .int .i64 b, .string E, .bool false] 28) none).block w1.heap.size (Array.getElem?_eq_some_iff.1 Q0_2.out).1 (by simp)).trans Q0_2.out)
  have P1_2 := Lib.hid (World.alloc_heap_new w2 (.cells #[.int .i64 1, .int .i64 b, .string E, .bool false] 28))
  have c0_0 := cell_fr (i := 0) P0_2.out rfl
  have c0_1 := cell_fr (i := 1) P0_2.out rfl
  have c0_2 := cell_fr (i := 2) P0_2.out rfl
  have c0_3 := cell_fr (i := 3) P0_2.out rfl
  have c1_0 := cell_fr (i := 0) P1_2.out rfl
  have c1_1 := cell_fr (i := 1) P1_2.out rfl
  have c1_2 := cell_fr (i := 2) P1_2.out rfl
  have c1_3 := cell_fr (i := 3) P1_2.out rfl
  clear hb2
  go_wp2_with fail
  clear c0_0 c0_1 c0_2 c0_3 c1_0 c1_1 c1_2 c1_3
  refine (add_raw 1 a E false 1 b E false 0 0 E false sRange _ HADD.out).mono ?_
  rintro e w3 ⟨rfl, hb3⟩
  have HB3 := Lib.hid (show Below w.heap.size w w3 from HBX2.out.trans (hb3.mono HBX2.out.size))
  have Q0_3 := Lib.hid ((hb3.block w1.heap.size (Array.getElem?_eq_some_iff.1 P0_2.out).1).trans P0_2.out)
  have Q1_3 := Lib.hid ((hb3.block w2.heap.size (Array.getElem?_eq_some_iff.1 P1_2.out).1).trans P1_2.out)
  have HBX3 := Lib.hid (HB3.out.alloc HB3.out.size (.cells #[.int .i64 0, .int .i64 0, .string E, .bool false] 28))
  have P0_3 := Lib.hid (((World.grownBy_alloc w3 (.cells #[.int .i64 0, .int .i64 0, .string E, .bool false] 28) none).block w1.heap.size (Array.getElem?_eq_some_iff.1 Q0_3.out).1 (by simp)).trans Q0_3.out)
  have P1_3 := Lib.hid (((World.grownBy_alloc w3 (.cells #[.int .i64 0, .int .i64 0, .string E, .bool false] 28) none).block w2.heap.size (Array.getElem?_eq_some_iff.1 Q1_3.out).1 (by simp)).trans Q1_3.out)
  have P2_3 := Lib.hid (World.alloc_heap_new w3 (.cells #[.int .i64 0, .int .i64 0, .string E, .bool false] 28))
  have c0_0 := cell_fr (i := 0) P0_3.out rfl
  have c0_1 := cell_fr (i := 1) P0_3.out rfl
  have c0_2 := cell_fr (i := 2) P0_3.out rfl
  have c0_3 := cell_fr (i := 3) P0_3.out rfl
  have c1_0 := cell_fr (i := 0) P1_3.out rfl
  have c1_1 := cell_fr (i := 1) P1_3.out rfl
  have c1_2 := cell_fr (i := 2) P1_3.out rfl
  have c1_3 := cell_fr (i := 3) P1_3.out rfl
  clear hb3
  go_wp2_with fail
  clear c0_0 c0_1 c0_2 c0_3 c1_0 c1_1 c1_2 c1_3
  refine (div_raw 1 a E false 1 b E false 1 q E false sDone _ HDIV.out).mono ?_
  rintro e w4 ⟨rfl, hb4⟩
  have HB4 := Lib.hid (show Below w.heap.size w w4 from HBX3.out.trans (hb4.mono HBX3.out.size))
  have Q0_4 := Lib.hid ((hb4.block w1.heap.size (Array.getElem?_eq_some_iff.1 P0_3.out).1).trans P0_3.out)
  have Q1_4 := Lib.hid ((hb4.block w2.heap.size (Array.getElem?_eq_some_iff.1 P1_3.out).1).trans P1_3.out)
  have Q2_4 := Lib.hid ((hb4.block w3.heap.size (Array.getElem?_eq_some_iff.1 P2_3.out).1).trans P2_3.out)
  have HBX4 := Lib.hid (HB4.out.alloc HB4.out.size (.cells #[.int .i64 1, .int .i64 q, .string E, .bool false] 28))
  have P0_4 := Lib.hid (((World.grownBy_alloc w4 (.cells #[.int .i64 1, .int .i64 q, .string E, .bool false] 28) none).block w1.heap.size (Array.getElem?_eq_some_iff.1 Q0_4.out).1 (by simp)).trans Q0_4.out)
  have P1_4 := Lib.hid (((World.grownBy_alloc w4 (.cells #[.int .i64 1, .int .i64 q, .string E, .bool false] 28) none).block w2.heap.size (Array.getElem?_eq_some_iff.1 Q1_4.out).1 (by simp)).trans Q1_4.out)
  have P2_4 := Lib.hid (((World.grownBy_alloc w4 (.cells #[.int .i64 1, .int .i64 q, .string E, .bool false] 28) none).block w3.heap.size (Array.getElem?_eq_some_iff.1 Q2_4.out).1 (by simp)).trans Q2_4.out)
  have P3_4 := Lib.hid (World.alloc_heap_new w4 (.cells #[.int .i64 1, .int .i64 q, .string E, .bool false] 28))
  have c3_0 := cell_fr (i := 0) P3_4.out rfl
  have c3_1 := cell_fr (i := 1) P3_4.out rfl
  have c3_2 := cell_fr (i := 2) P3_4.out rfl
  have c3_3 := cell_fr (i := 3) P3_4.out rfl
  have c1_0 := cell_fr (i := 0) P1_4.out rfl
  have c1_1 := cell_fr (i := 1) P1_4.out rfl
  have c1_2 := cell_fr (i := 2) P1_4.out rfl
  have c1_3 := cell_fr (i := 3) P1_4.out rfl
  clear hb4
  go_wp2_with fail
  clear c3_0 c3_1 c3_2 c3_3 c1_0 c1_1 c1_2 c1_3
  refine (mul_raw 1 q E false 1 b E false 1 p E false sDone _ HFQ.out HFB.out HMUL.out).mono ?_
  rintro e w5 ⟨rfl, hb5⟩
  have HB5 := Lib.hid (show Below w.heap.size w w5 from HBX4.out.trans (hb5.mono HBX4.out.size))
  have Q0_5 := Lib.hid ((hb5.block w1.heap.size (Array.getElem?_eq_some_iff.1 P0_4.out).1).trans P0_4.out)
  have Q1_5 := Lib.hid ((hb5.block w2.heap.size (Array.getElem?_eq_some_iff.1 P1_4.out).1).trans P1_4.out)
  have Q2_5 := Lib.hid ((hb5.block w3.heap.size (Array.getElem?_eq_some_iff.1 P2_4.out).1).trans P2_4.out)
  have Q3_5 := Lib.hid ((hb5.block w4.heap.size (Array.getElem?_eq_some_iff.1 P3_4.out).1).trans P3_4.out)
  have HBX5 := Lib.hid (HB5.out.alloc HB5.out.size (.cells #[.int .i64 1, .int .i64 p, .string E, .bool false] 28))
  have P0_5 := Lib.hid (((World.grownBy_alloc w5 (.cells #[.int .i64 1, .int .i64 p, .string E, .bool false] 28) none).block w1.heap.size (Array.getElem?_eq_some_iff.1 Q0_5.out).1 (by simp)).trans Q0_5.out)
  have P1_5 := Lib.hid (((World.grownBy_alloc w5 (.cells #[.int .i64 1, .int .i64 p, .string E, .bool false] 28) none).block w2.heap.size (Array.getElem?_eq_some_iff.1 Q1_5.out).1 (by simp)).trans Q1_5.out)
  have P2_5 := Lib.hid (((World.grownBy_alloc w5 (.cells #[.int .i64 1, .int .i64 p, .string E, .bool false] 28) none).block w3.heap.size (Array.getElem?_eq_some_iff.1 Q2_5.out).1 (by simp)).trans Q2_5.out)
  have P3_5 := Lib.hid (((World.grownBy_alloc w5 (.cells #[.int .i64 1, .int .i64 p, .string E, .bool false] 28) none).block w4.heap.size (Array.getElem?_eq_some_iff.1 Q3_5.out).1 (by simp)).trans Q3_5.out)
  have P4_5 := Lib.hid (World.alloc_heap_new w5 (.cells #[.int .i64 1, .int .i64 p, .string E, .bool false] 28))
  have c0_0 := cell_fr (i := 0) P0_5.out rfl
  have c0_1 := cell_fr (i := 1) P0_5.out rfl
  have c0_2 := cell_fr (i := 2) P0_5.out rfl
  have c0_3 := cell_fr (i := 3) P0_5.out rfl
  have c4_0 := cell_fr (i := 0) P4_5.out rfl
  have c4_1 := cell_fr (i := 1) P4_5.out rfl
  have c4_2 := cell_fr (i := 2) P4_5.out rfl
  have c4_3 := cell_fr (i := 3) P4_5.out rfl
  clear hb5
  go_wp2_with fail
  clear c0_0 c0_1 c0_2 c0_3 c4_0 c4_1 c4_2 c4_3
  refine (sub_raw 1 a E false 1 p E false 1 r E false sDone _ HSUB.out).mono ?_
  rintro e w6 ⟨rfl, hb6⟩
  have HB6 := Lib.hid (show Below w.heap.size w w6 from HBX5.out.trans (hb6.mono HBX5.out.size))
  have Q0_6 := Lib.hid ((hb6.block w1.heap.size (Array.getElem?_eq_some_iff.1 P0_5.out).1).trans P0_5.out)
  have Q1_6 := Lib.hid ((hb6.block w2.heap.size (Array.getElem?_eq_some_iff.1 P1_5.out).1).trans P1_5.out)
  have Q2_6 := Lib.hid ((hb6.block w3.heap.size (Array.getElem?_eq_some_iff.1 P2_5.out).1).trans P2_5.out)
  have Q3_6 := Lib.hid ((hb6.block w4.heap.size (Array.getElem?_eq_some_iff.1 P3_5.out).1).trans P3_5.out)
  have Q4_6 := Lib.hid ((hb6.block w5.heap.size (Array.getElem?_eq_some_iff.1 P4_5.out).1).trans P4_5.out)
  have HBX6 := Lib.hid (HB6.out.alloc HB6.out.size (.cells #[.int .i64 1, .int .i64 r, .string E, .bool false] 28))
  have P0_6 := Lib.hid (((World.grownBy_alloc w6 (.cells #[.int .i64 1, .int .i64 r, .string E, .bool false] 28) none).block w1.heap.size (Array.getElem?_eq_some_iff.1 Q0_6.out).1 (by simp)).trans Q0_6.out)
  have P1_6 := Lib.hid (((World.grownBy_alloc w6 (.cells #[.int .i64 1, .int .i64 r, .string E, .bool false] 28) none).block w2.heap.size (Array.getElem?_eq_some_iff.1 Q1_6.out).1 (by simp)).trans Q1_6.out)
  have P2_6 := Lib.hid (((World.grownBy_alloc w6 (.cells #[.int .i64 1, .int .i64 r, .string E, .bool false] 28) none).block w3.heap.size (Array.getElem?_eq_some_iff.1 Q2_6.out).1 (by simp)).trans Q2_6.out)
  have P3_6 := Lib.hid (((World.grownBy_alloc w6 (.cells #[.int .i64 1, .int .i64 r, .string E, .bool false] 28) none).block w4.heap.size (Array.getElem?_eq_some_iff.1 Q3_6.out).1 (by simp)).trans Q3_6.out)
  have P4_6 := Lib.hid (((World.grownBy_alloc w6 (.cells #[.int .i64 1, .int .i64 r, .string E, .bool false] 28) none).block w5.heap.size (Array.getElem?_eq_some_iff.1 Q4_6.out).1 (by simp)).trans Q4_6.out)
  have P5_6 := Lib.hid (World.alloc_heap_new w6 (.cells #[.int .i64 1, .int .i64 r, .string E, .bool false] 28))
  have c5_0 := cell_fr (i := 0) P5_6.out rfl
  have c5_1 := cell_fr (i := 1) P5_6.out rfl
  have c5_2 := cell_fr (i := 2) P5_6.out rfl
  have c5_3 := cell_fr (i := 3) P5_6.out rfl
  clear hb6
  go_wp2_with fail
  clear c5_0 c5_1 c5_2 c5_3
  refine (alive_w _).mono ?_
  rintro e w7 ⟨rfl, hb7⟩
  have HB7 := Lib.hid (show Below w.heap.size w w7 from HBX6.out.trans (hb7.mono HBX6.out.size))
  have Q0_7 := Lib.hid ((hb7.block w1.heap.size (Array.getElem?_eq_some_iff.1 P0_6.out).1).trans P0_6.out)
  have Q1_7 := Lib.hid ((hb7.block w2.heap.size (Array.getElem?_eq_some_iff.1 P1_6.out).1).trans P1_6.out)
  have Q2_7 := Lib.hid ((hb7.block w3.heap.size (Array.getElem?_eq_some_iff.1 P2_6.out).1).trans P2_6.out)
  have Q3_7 := Lib.hid ((hb7.block w4.heap.size (Array.getElem?_eq_some_iff.1 P3_6.out).1).trans P3_6.out)
  have Q4_7 := Lib.hid ((hb7.block w5.heap.size (Array.getElem?_eq_some_iff.1 P4_6.out).1).trans P4_6.out)
  have Q5_7 := Lib.hid ((hb7.block w6.heap.size (Array.getElem?_eq_some_iff.1 P5_6.out).1).trans P5_6.out)
  have HBX7 := HB7
  have P0_7 := Q0_7
  have P1_7 := Q1_7
  have P2_7 := Q2_7
  have P3_7 := Q3_7
  have P4_7 := Q4_7
  have P5_7 := Q5_7
  clear hb7
  go_wp2_with fail
  go_ret
  exact ⟨rfl, HB7.out⟩
set_option maxHeartbeats 2000000 in
set_option maxRecDepth 100000 in
theorem num_p2_n (a b q p r : Int) (w : World) (HADD : Hid (liftF 1 1 1 (addF a b) = (0, 0, E, false, sRange))) (HDIV : Hid (liftF 1 1 1 (divF a b) = (1, q, E, false, sDone))) (HFQ : Hid (Fit q)) (HFB : Hid (Fit b)) (HMUL : Hid (liftF 1 1 1 (mulF q b) = (1, p, E, false, sDone))) (HSUB : Hid (liftF 1 1 1 (subF a p) = (1, r, E, false, sDone))) (t1 : (r == 0) = false) (t2 : decide (0 < r) = true) (t3 : decide (0 < a) = true) (t4 : decide (r < b) = false) (t5 : decide (b < wrap64 (-r)) = true) : Calls Tryd.prog 8 #[.int .i64 a, .int .i64 b] w fun e w' => e = .returned (.bool true) ∧ Below w.heap.size w w' := by
  go_enter Tryd.func8, Tryd.ntmps8
  go_wp2_with fail
  refine (num30 a _).mono ?_
  rintro e w1 ⟨rfl, hb1⟩
  have HB1 := Lib.hid (show Below w.heap.size w w1 from hb1)
  have HBX1 := Lib.hid (HB1.out.alloc HB1.out.size (.cells #[.int .i64 1, .int .i64 a, .string E, .bool false] 28))
  have P0_1 := Lib.hid (World.alloc_heap_new w1 (.cells #[.int .i64 1, .int .i64 a, .string E, .bool false] 28))
  clear hb1
  go_wp2_with fail
  refine (num30 b _).mono ?_
  rintro e w2 ⟨rfl, hb2⟩
  have HB2 := Lib.hid (show Below w.heap.size w w2 from HBX1.out.trans (hb2.mono HBX1.out.size))
  have Q0_2 := Lib.hid ((hb2.block w1.heap.size (Array.getElem?_eq_some_iff.1 P0_1.out).1).trans P0_1.out)
  have HBX2 := Lib.hid (HB2.out.alloc HB2.out.size (.cells #[.int .i64 1, .int .i64 b, .string E, .bool false] 28))
  have P0_2 := Lib.hid (((World.grownBy_alloc w2 (.cells #[.int .i64 1, .int .i64 b, .string E, .bool false] 28) none).block w1.heap.size (Array.getElem?_eq_some_iff.1 Q0_2.out).1 (by simp)).trans Q0_2.out)
  have P1_2 := Lib.hid (World.alloc_heap_new w2 (.cells #[.int .i64 1, .int .i64 b, .string E, .bool false] 28))
  have c0_0 := cell_fr (i := 0) P0_2.out rfl
  have c0_1 := cell_fr (i := 1) P0_2.out rfl
  have c0_2 := cell_fr (i := 2) P0_2.out rfl
  have c0_3 := cell_fr (i := 3) P0_2.out rfl
  have c1_0 := cell_fr (i := 0) P1_2.out rfl
  have c1_1 := cell_fr (i := 1) P1_2.out rfl
  have c1_2 := cell_fr (i := 2) P1_2.out rfl
  have c1_3 := cell_fr (i := 3) P1_2.out rfl
  clear hb2
  go_wp2_with fail
  clear c0_0 c0_1 c0_2 c0_3 c1_0 c1_1 c1_2 c1_3
  refine (add_raw 1 a E false 1 b E false 0 0 E false sRange _ HADD.out).mono ?_
  rintro e w3 ⟨rfl, hb3⟩
  have HB3 := Lib.hid (show Below w.heap.size w w3 from HBX2.out.trans (hb3.mono HBX2.out.size))
  have Q0_3 := Lib.hid ((hb3.block w1.heap.size (Array.getElem?_eq_some_iff.1 P0_2.out).1).trans P0_2.out)
  have Q1_3 := Lib.hid ((hb3.block w2.heap.size (Array.getElem?_eq_some_iff.1 P1_2.out).1).trans P1_2.out)
  have HBX3 := Lib.hid (HB3.out.alloc HB3.out.size (.cells #[.int .i64 0, .int .i64 0, .string E, .bool false] 28))
  have P0_3 := Lib.hid (((World.grownBy_alloc w3 (.cells #[.int .i64 0, .int .i64 0, .string E, .bool false] 28) none).block w1.heap.size (Array.getElem?_eq_some_iff.1 Q0_3.out).1 (by simp)).trans Q0_3.out)
  have P1_3 := Lib.hid (((World.grownBy_alloc w3 (.cells #[.int .i64 0, .int .i64 0, .string E, .bool false] 28) none).block w2.heap.size (Array.getElem?_eq_some_iff.1 Q1_3.out).1 (by simp)).trans Q1_3.out)
  have P2_3 := Lib.hid (World.alloc_heap_new w3 (.cells #[.int .i64 0, .int .i64 0, .string E, .bool false] 28))
  have c0_0 := cell_fr (i := 0) P0_3.out rfl
  have c0_1 := cell_fr (i := 1) P0_3.out rfl
  have c0_2 := cell_fr (i := 2) P0_3.out rfl
  have c0_3 := cell_fr (i := 3) P0_3.out rfl
  have c1_0 := cell_fr (i := 0) P1_3.out rfl
  have c1_1 := cell_fr (i := 1) P1_3.out rfl
  have c1_2 := cell_fr (i := 2) P1_3.out rfl
  have c1_3 := cell_fr (i := 3) P1_3.out rfl
  clear hb3
  go_wp2_with fail
  clear c0_0 c0_1 c0_2 c0_3 c1_0 c1_1 c1_2 c1_3
  refine (div_raw 1 a E false 1 b E false 1 q E false sDone _ HDIV.out).mono ?_
  rintro e w4 ⟨rfl, hb4⟩
  have HB4 := Lib.hid (show Below w.heap.size w w4 from HBX3.out.trans (hb4.mono HBX3.out.size))
  have Q0_4 := Lib.hid ((hb4.block w1.heap.size (Array.getElem?_eq_some_iff.1 P0_3.out).1).trans P0_3.out)
  have Q1_4 := Lib.hid ((hb4.block w2.heap.size (Array.getElem?_eq_some_iff.1 P1_3.out).1).trans P1_3.out)
  have Q2_4 := Lib.hid ((hb4.block w3.heap.size (Array.getElem?_eq_some_iff.1 P2_3.out).1).trans P2_3.out)
  have HBX4 := Lib.hid (HB4.out.alloc HB4.out.size (.cells #[.int .i64 1, .int .i64 q, .string E, .bool false] 28))
  have P0_4 := Lib.hid (((World.grownBy_alloc w4 (.cells #[.int .i64 1, .int .i64 q, .string E, .bool false] 28) none).block w1.heap.size (Array.getElem?_eq_some_iff.1 Q0_4.out).1 (by simp)).trans Q0_4.out)
  have P1_4 := Lib.hid (((World.grownBy_alloc w4 (.cells #[.int .i64 1, .int .i64 q, .string E, .bool false] 28) none).block w2.heap.size (Array.getElem?_eq_some_iff.1 Q1_4.out).1 (by simp)).trans Q1_4.out)
  have P2_4 := Lib.hid (((World.grownBy_alloc w4 (.cells #[.int .i64 1, .int .i64 q, .string E, .bool false] 28) none).block w3.heap.size (Array.getElem?_eq_some_iff.1 Q2_4.out).1 (by simp)).trans Q2_4.out)
  have P3_4 := Lib.hid (World.alloc_heap_new w4 (.cells #[.int .i64 1, .int .i64 q, .string E, .bool false] 28))
  have c3_0 := cell_fr (i := 0) P3_4.out rfl
  have c3_1 := cell_fr (i := 1) P3_4.out rfl
  have c3_2 := cell_fr (i := 2) P3_4.out rfl
  have c3_3 := cell_fr (i := 3) P3_4.out rfl
  have c1_0 := cell_fr (i := 0) P1_4.out rfl
  have c1_1 := cell_fr (i := 1) P1_4.out rfl
  have c1_2 := cell_fr (i := 2) P1_4.out rfl
  have c1_3 := cell_fr (i := 3) P1_4.out rfl
  clear hb4
  go_wp2_with fail
  clear c3_0 c3_1 c3_2 c3_3 c1_0 c1_1 c1_2 c1_3
  refine (mul_raw 1 q E false 1 b E false 1 p E false sDone _ HFQ.out HFB.out HMUL.out).mono ?_
  rintro e w5 ⟨rfl, hb5⟩
  have HB5 := Lib.hid (show Below w.heap.size w w5 from HBX4.out.trans (hb5.mono HBX4.out.size))
  have Q0_5 := Lib.hid ((hb5.block w1.heap.size (Array.getElem?_eq_some_iff.1 P0_4.out).1).trans P0_4.out)
  have Q1_5 := Lib.hid ((hb5.block w2.heap.size (Array.getElem?_eq_some_iff.1 P1_4.out).1).trans P1_4.out)
  have Q2_5 := Lib.hid ((hb5.block w3.heap.size (Array.getElem?_eq_some_iff.1 P2_4.out).1).trans P2_4.out)
  have Q3_5 := Lib.hid ((hb5.block w4.heap.size (Array.getElem?_eq_some_iff.1 P3_4.out).1).trans P3_4.out)
  have HBX5 := Lib.hid (HB5.out.alloc HB5.out.size (.cells #[.int .i64 1, .int .i64 p, .string E, .bool false] 28))
  have P0_5 := Lib.hid (((World.grownBy_alloc w5 (.cells #[.int .i64 1, .int .i64 p, .string E, .bool false] 28) none).block w1.heap.size (Array.getElem?_eq_some_iff.1 Q0_5.out).1 (by simp)).trans Q0_5.out)
  have P1_5 := Lib.hid (((World.grownBy_alloc w5 (.cells #[.int .i64 1, .int .i64 p, .string E, .bool false] 28) none).block w2.heap.size (Array.getElem?_eq_some_iff.1 Q1_5.out).1 (by simp)).trans Q1_5.out)
  have P2_5 := Lib.hid (((World.grownBy_alloc w5 (.cells #[.int .i64 1, .int .i64 p, .string E, .bool false] 28) none).block w3.heap.size (Array.getElem?_eq_some_iff.1 Q2_5.out).1 (by simp)).trans Q2_5.out)
  have P3_5 := Lib.hid (((World.grownBy_alloc w5 (.cells #[.int .i64 1, .int .i64 p, .string E, .bool false] 28) none).block w4.heap.size (Array.getElem?_eq_some_iff.1 Q3_5.out).1 (by simp)).trans Q3_5.out)
  have P4_5 := Lib.hid (World.alloc_heap_new w5 (.cells #[.int .i64 1, .int .i64 p, .string E, .bool false] 28))
  have c0_0 := cell_fr (i := 0) P0_5.out rfl
  have c0_1 := cell_fr (i := 1) P0_5.out rfl
  have c0_2 := cell_fr (i := 2) P0_5.out rfl
  have c0_3 := cell_fr (i := 3) P0_5.out rfl
  have c4_0 := cell_fr (i := 0) P4_5.out rfl
  have c4_1 := cell_fr (i := 1) P4_5.out rfl
  have c4_2 := cell_fr (i := 2) P4_5.out rfl
  have c4_3 := cell_fr (i := 3) P4_5.out rfl
  clear hb5
  go_wp2_with fail
  clear c0_0 c0_1 c0_2 c0_3 c4_0 c4_1 c4_2 c4_3
  refine (sub_raw 1 a E false 1 p E false 1 r E false sDone _ HSUB.out).mono ?_
  rintro e w6 ⟨rfl, hb6⟩
  have HB6 := Lib.hid (show Below w.heap.size w w6 from HBX5.out.trans (hb6.mono HBX5.out.size))
  have Q0_6 := Lib.hid ((hb6.block w1.heap.size (Array.getElem?_eq_some_iff.1 P0_5.out).1).trans P0_5.out)
  have Q1_6 := Lib.hid ((hb6.block w2.heap.size (Array.getElem?_eq_some_iff.1 P1_5.out).1).trans P1_5.out)
  have Q2_6 := Lib.hid ((hb6.block w3.heap.size (Array.getElem?_eq_some_iff.1 P2_5.out).1).trans P2_5.out)
  have Q3_6 := Lib.hid ((hb6.block w4.heap.size (Array.getElem?_eq_some_iff.1 P3_5.out).1).trans P3_5.out)
  have Q4_6 := Lib.hid ((hb6.block w5.heap.size (Array.getElem?_eq_some_iff.1 P4_5.out).1).trans P4_5.out)
  have HBX6 := Lib.hid (HB6.out.alloc HB6.out.size (.cells #[.int .i64 1, .int .i64 r, .string E, .bool false] 28))
  have P0_6 := Lib.hid (((World.grownBy_alloc w6 (.cells #[.int .i64 1, .int .i64 r, .string E, .bool false] 28) none).block w1.heap.size (Array.getElem?_eq_some_iff.1 Q0_6.out).1 (by simp)).trans Q0_6.out)
  have P1_6 := Lib.hid (((World.grownBy_alloc w6 (.cells #[.int .i64 1, .int .i64 r, .string E, .bool false] 28) none).block w2.heap.size (Array.getElem?_eq_some_iff.1 Q1_6.out).1 (by simp)).trans Q1_6.out)
  have P2_6 := Lib.hid (((World.grownBy_alloc w6 (.cells #[.int .i64 1, .int .i64 r, .string E, .bool false] 28) none).block w3.heap.size (Array.getElem?_eq_some_iff.1 Q2_6.out).1 (by simp)).trans Q2_6.out)
  have P3_6 := Lib.hid (((World.grownBy_alloc w6 (.cells #[.int .i64 1, .int .i64 r, .string E, .bool false] 28) none).block w4.heap.size (Array.getElem?_eq_some_iff.1 Q3_6.out).1 (by simp)).trans Q3_6.out)
  have P4_6 := Lib.hid (((World.grownBy_alloc w6 (.cells #[.int .i64 1, .int .i64 r, .string E, .bool false] 28) none).block w5.heap.size (Array.getElem?_eq_some_iff.1 Q4_6.out).1 (by simp)).trans Q4_6.out)
  have P5_6 := Lib.hid (World.alloc_heap_new w6 (.cells #[.int .i64 1, .int .i64 r, .string E, .bool false] 28))
  have c5_0 := cell_fr (i := 0) P5_6.out rfl
  have c5_1 := cell_fr (i := 1) P5_6.out rfl
  have c5_2 := cell_fr (i := 2) P5_6.out rfl
  have c5_3 := cell_fr (i := 3) P5_6.out rfl
  clear hb6
  go_wp2_with fail
  clear c5_0 c5_1 c5_2 c5_3
  refine (alive_w _).mono ?_
  rintro e w7 ⟨rfl, hb7⟩
  have HB7 := Lib.hid (show Below w.heap.size w w7 from HBX6.out.trans (hb7.mono HBX6.out.size))
  have Q0_7 := Lib.hid ((hb7.block w1.heap.size (Array.getElem?_eq_some_iff.1 P0_6.out).1).trans P0_6.out)
  have Q1_7 := Lib.hid ((hb7.block w2.heap.size (Array.getElem?_eq_some_iff.1 P1_6.out).1).trans P1_6.out)
  have Q2_7 := Lib.hid ((hb7.block w3.heap.size (Array.getElem?_eq_some_iff.1 P2_6.out).1).trans P2_6.out)
  have Q3_7 := Lib.hid ((hb7.block w4.heap.size (Array.getElem?_eq_some_iff.1 P3_6.out).1).trans P3_6.out)
  have Q4_7 := Lib.hid ((hb7.block w5.heap.size (Array.getElem?_eq_some_iff.1 P4_6.out).1).trans P4_6.out)
  have Q5_7 := Lib.hid ((hb7.block w6.heap.size (Array.getElem?_eq_some_iff.1 P5_6.out).1).trans P5_6.out)
  have HBX7 := HB7
  have P0_7 := Q0_7
  have P1_7 := Q1_7
  have P2_7 := Q2_7
  have P3_7 := Q3_7
  have P4_7 := Q4_7
  have P5_7 := Q5_7
  clear hb7
  go_wp2_with fail
  go_ret
  exact ⟨rfl, HB7.out⟩
set_option maxHeartbeats 2000000 in
set_option maxRecDepth 100000 in
theorem num_m1_n (a b q p r : Int) (w : World) (HADD : Hid (liftF 1 1 1 (addF a b) = (0, 0, E, false, sRange))) (HDIV : Hid (liftF 1 1 1 (divF a b) = (1, q, E, false, sDone))) (HFQ : Hid (Fit q)) (HFB : Hid (Fit b)) (HMUL : Hid (liftF 1 1 1 (mulF q b) = (1, p, E, false, sDone))) (HSUB : Hid (liftF 1 1 1 (subF a p) = (1, r, E, false, sDone))) (t1 : (r == 0) = false) (t2 : decide (0 < r) = false) (t3 : decide (0 < a) = false) (t6 : decide (r < 0) = true) (t4 : decide (b < r) = true) : Calls Tryd.prog 8 #[.int .i64 a, .int .i64 b] w fun e w' => e = .returned (.bool true) ∧ Below w.heap.size w w' := by
  go_enter Tryd.func8, Tryd.ntmps8
  go_wp2_with fail
  refine (num30 a _).mono ?_
  rintro e w1 ⟨rfl, hb1⟩
  have HB1 := Lib.hid (show Below w.heap.size w w1 from hb1)
  have HBX1 := Lib.hid (HB1.out.alloc HB1.out.size (.cells #[.int .i64 1, .int .i64 a, .string E, .bool false] 28))
  have P0_1 := Lib.hid (World.alloc_heap_new w1 (.cells #[.int .i64 1, .int .i64 a, .string E, .bool false] 28))
  clear hb1
  go_wp2_with fail
  refine (num30 b _).mono ?_
  rintro e w2 ⟨rfl, hb2⟩
  have HB2 := Lib.hid (show Below w.heap.size w w2 from HBX1.out.trans (hb2.mono HBX1.out.size))
  have Q0_2 := Lib.hid ((hb2.block w1.heap.size (Array.getElem?_eq_some_iff.1 P0_1.out).1).trans P0_1.out)
  have HBX2 := Lib.hid (HB2.out.alloc HB2.out.size (.cells #[.int .i64 1, .int .i64 b, .string E, .bool false] 28))
  have P0_2 := Lib.hid (((World.grownBy_alloc w2 (.cells #[.int .i64 1, .int .i64 b, .string E, .bool false] 28) none).block w1.heap.size (Array.getElem?_eq_some_iff.1 Q0_2.out).1 (by simp)).trans Q0_2.out)
  have P1_2 := Lib.hid (World.alloc_heap_new w2 (.cells #[.int .i64 1, .int .i64 b, .string E, .bool false] 28))
  have c0_0 := cell_fr (i := 0) P0_2.out rfl
  have c0_1 := cell_fr (i := 1) P0_2.out rfl
  have c0_2 := cell_fr (i := 2) P0_2.out rfl
  have c0_3 := cell_fr (i := 3) P0_2.out rfl
  have c1_0 := cell_fr (i := 0) P1_2.out rfl
  have c1_1 := cell_fr (i := 1) P1_2.out rfl
  have c1_2 := cell_fr (i := 2) P1_2.out rfl
  have c1_3 := cell_fr (i := 3) P1_2.out rfl
  clear hb2
  go_wp2_with fail
  clear c0_0 c0_1 c0_2 c0_3 c1_0 c1_1 c1_2 c1_3
  refine (add_raw 1 a E false 1 b E false 0 0 E false sRange _ HADD.out).mono ?_
  rintro e w3 ⟨rfl, hb3⟩
  have HB3 := Lib.hid (show Below w.heap.size w w3 from HBX2.out.trans (hb3.mono HBX2.out.size))
  have Q0_3 := Lib.hid ((hb3.block w1.heap.size (Array.getElem?_eq_some_iff.1 P0_2.out).1).trans P0_2.out)
  have Q1_3 := Lib.hid ((hb3.block w2.heap.size (Array.getElem?_eq_some_iff.1 P1_2.out).1).trans P1_2.out)
  have HBX3 := Lib.hid (HB3.out.alloc HB3.out.size (.cells #[.int .i64 0, .int .i64 0, .string E, .bool false] 28))
  have P0_3 := Lib.hid (((World.grownBy_alloc w3 (.cells #[.int .i64 0, .int .i64 0, .string E, .bool false] 28) none).block w1.heap.size (Array.getElem?_eq_some_iff.1 Q0_3.out).1 (by simp)).trans Q0_3.out)
  have P1_3 := Lib.hid (((World.grownBy_alloc w3 (.cells #[.int .i64 0, .int .i64 0, .string E, .bool false] 28) none).block w2.heap.size (Array.getElem?_eq_some_iff.1 Q1_3.out).1 (by simp)).trans Q1_3.out)
  have P2_3 := Lib.hid (World.alloc_heap_new w3 (.cells #[.int .i64 0, .int .i64 0, .string E, .bool false] 28))
  have c0_0 := cell_fr (i := 0) P0_3.out rfl
  have c0_1 := cell_fr (i := 1) P0_3.out rfl
  have c0_2 := cell_fr (i := 2) P0_3.out rfl
  have c0_3 := cell_fr (i := 3) P0_3.out rfl
  have c1_0 := cell_fr (i := 0) P1_3.out rfl
  have c1_1 := cell_fr (i := 1) P1_3.out rfl
  have c1_2 := cell_fr (i := 2) P1_3.out rfl
  have c1_3 := cell_fr (i := 3) P1_3.out rfl
  clear hb3
  go_wp2_with fail
  clear c0_0 c0_1 c0_2 c0_3 c1_0 c1_1 c1_2 c1_3
  refine (div_raw 1 a E false 1 b E false 1 q E false sDone _ HDIV.out).mono ?_
  rintro e w4 ⟨rfl, hb4⟩
  have HB4 := Lib.hid (show Below w.heap.size w w4 from HBX3.out.trans (hb4.mono HBX3.out.size))
  have Q0_4 := Lib.hid ((hb4.block w1.heap.size (Array.getElem?_eq_some_iff.1 P0_3.out).1).trans P0_3.out)
  have Q1_4 := Lib.hid ((hb4.block w2.heap.size (Array.getElem?_eq_some_iff.1 P1_3.out).1).trans P1_3.out)
  have Q2_4 := Lib.hid ((hb4.block w3.heap.size (Array.getElem?_eq_some_iff.1 P2_3.out).1).trans P2_3.out)
  have HBX4 := Lib.hid (HB4.out.alloc HB4.out.size (.cells #[.int .i64 1, .int .i64 q, .string E, .bool false] 28))
  have P0_4 := Lib.hid (((World.grownBy_alloc w4 (.cells #[.int .i64 1, .int .i64 q, .string E, .bool false] 28) none).block w1.heap.size (Array.getElem?_eq_some_iff.1 Q0_4.out).1 (by simp)).trans Q0_4.out)
  have P1_4 := Lib.hid (((World.grownBy_alloc w4 (.cells #[.int .i64 1, .int .i64 q, .string E, .bool false] 28) none).block w2.heap.size (Array.getElem?_eq_some_iff.1 Q1_4.out).1 (by simp)).trans Q1_4.out)
  have P2_4 := Lib.hid (((World.grownBy_alloc w4 (.cells #[.int .i64 1, .int .i64 q, .string E, .bool false] 28) none).block w3.heap.size (Array.getElem?_eq_some_iff.1 Q2_4.out).1 (by simp)).trans Q2_4.out)
  have P3_4 := Lib.hid (World.alloc_heap_new w4 (.cells #[.int .i64 1, .int .i64 q, .string E, .bool false] 28))
  have c3_0 := cell_fr (i := 0) P3_4.out rfl
  have c3_1 := cell_fr (i := 1) P3_4.out rfl
  have c3_2 := cell_fr (i := 2) P3_4.out rfl
  have c3_3 := cell_fr (i := 3) P3_4.out rfl
  have c1_0 := cell_fr (i := 0) P1_4.out rfl
  have c1_1 := cell_fr (i := 1) P1_4.out rfl
  have c1_2 := cell_fr (i := 2) P1_4.out rfl
  have c1_3 := cell_fr (i := 3) P1_4.out rfl
  clear hb4
  go_wp2_with fail
  clear c3_0 c3_1 c3_2 c3_3 c1_0 c1_1 c1_2 c1_3
  refine (mul_raw 1 q E false 1 b E false 1 p E false sDone _ HFQ.out HFB.out HMUL.out).mono ?_
  rintro e w5 ⟨rfl, hb5⟩
  have HB5 := Lib.hid (show Below w.heap.size w w5 from HBX4.out.trans (hb5.mono HBX4.out.size))
  have Q0_5 := Lib.hid ((hb5.block w1.heap.size (Array.getElem?_eq_some_iff.1 P0_4.out).1).trans P0_4.out)
  have Q1_5 := Lib.hid ((hb5.block w2.heap.size (Array.getElem?_eq_some_iff.1 P1_4.out).1).trans P1_4.out)
  have Q2_5 := Lib.hid ((hb5.block w3.heap.size (Array.getElem?_eq_some_iff.1 P2_4.out).1).trans P2_4.out)
  have Q3_5 := Lib.hid ((hb5.block w4.heap.size (Array.getElem?_eq_some_iff.1 P3_4.out).1).trans P3_4.out)
  have HBX5 := Lib.hid (HB5.out.alloc HB5.out.size (.cells #[.int .i64 1, .int .i64 p, .string E, .bool false] 28))
  have P0_5 := Lib.hid (((World.grownBy_alloc w5 (.cells #[.int .i64 1, .int .i64 p, .string E, .bool false] 28) none).block w1.heap.size (Array.getElem?_eq_some_iff.1 Q0_5.out).1 (by simp)).trans Q0_5.out)
  have P1_5 := Lib.hid (((World.grownBy_alloc w5 (.cells #[.int .i64 1, .int .i64 p, .string E, .bool false] 28) none).block w2.heap.size (Array.getElem?_eq_some_iff.1 Q1_5.out).1 (by simp)).trans Q1_5.out)
  have P2_5 := Lib.hid (((World.grownBy_alloc w5 (.cells #[.int .i64 1, .int .i64 p, .string E, .bool false] 28) none).block w3.heap.size (Array.getElem?_eq_some_iff.1 Q2_5.out).1 (by simp)).trans Q2_5.out)
  have P3_5 := Lib.hid (((World.grownBy_alloc w5 (.cells #[.int .i64 1, .int .i64 p, .string E, .bool false] 28) none).block w4.heap.size (Array.getElem?_eq_some_iff.1 Q3_5.out).1 (by simp)).trans Q3_5.out)
  have P4_5 := Lib.hid (World.alloc_heap_new w5 (.cells #[.int .i64 1, .int .i64 p, .string E, .bool false] 28))
  have c0_0 := cell_fr (i := 0) P0_5.out rfl
  have c0_1 := cell_fr (i := 1) P0_5.out rfl
  have c0_2 := cell_fr (i := 2) P0_5.out rfl
  have c0_3 := cell_fr (i := 3) P0_5.out rfl
  have c4_0 := cell_fr (i := 0) P4_5.out rfl
  have c4_1 := cell_fr (i := 1) P4_5.out rfl
  have c4_2 := cell_fr (i := 2) P4_5.out rfl
  have c4_3 := cell_fr (i := 3) P4_5.out rfl
  clear hb5
  go_wp2_with fail
  clear c0_0 c0_1 c0_2 c0_3 c4_0 c4_1 c4_2 c4_3
  refine (sub_raw 1 a E false 1 p E false 1 r E false sDone _ HSUB.out).mono ?_
  rintro e w6 ⟨rfl, hb6⟩
  have HB6 := Lib.hid (show Below w.heap.size w w6 from HBX5.out.trans (hb6.mono HBX5.out.size))
  have Q0_6 := Lib.hid ((hb6.block w1.heap.size (Array.getElem?_eq_some_iff.1 P0_5.out).1).trans P0_5.out)
  have Q1_6 := Lib.hid ((hb6.block w2.heap.size (Array.getElem?_eq_some_iff.1 P1_5.out).1).trans P1_5.out)
  have Q2_6 := Lib.hid ((hb6.block w3.heap.size (Array.getElem?_eq_some_iff.1 P2_5.out).1).trans P2_5.out)
  have Q3_6 := Lib.hid ((hb6.block w4.heap.size (Array.getElem?_eq_some_iff.1 P3_5.out).1).trans P3_5.out)
  have Q4_6 := Lib.hid ((hb6.block w5.heap.size (Array.getElem?_eq_some_iff.1 P4_5.out).1).trans P4_5.out)
  have HBX6 := Lib.hid (HB6.out.alloc HB6.out.size (.cells #[.int .i64 1, .int .i64 r, .string E, .bool false] 28))
  have P0_6 := Lib.hid (((World.grownBy_alloc w6 (.cells #[.int .i64 1, .int .i64 r, .string E, .bool false] 28) none).block w1.heap.size (Array.getElem?_eq_some_iff.1 Q0_6.out).1 (by simp)).trans Q0_6.out)
  have P1_6 := Lib.hid (((World.grownBy_alloc w6 (.cells #[.int .i64 1, .int .i64 r, .string E, .bool false] 28) none).block w2.heap.size (Array.getElem?_eq_some_iff.1 Q1_6.out).1 (by simp)).trans Q1_6.out)
  have P2_6 := Lib.hid (((World.grownBy_alloc w6 (.cells #[.int .i64 1, .int .i64 r, .string E, .bool false] 28) none).block w3.heap.size (Array.getElem?_eq_some_iff.1 Q2_6.out).1 (by simp)).trans Q2_6.out)
  have P3_6 := Lib.hid (((World.grownBy_alloc w6 (.cells #[.int .i64 1, .int .i64 r, .string E, .bool false] 28) none).block w4.heap.size (Array.getElem?_eq_some_iff.1 Q3_6.out).1 (by simp)).trans Q3_6.out)
  have P4_6 := Lib.hid (((World.grownBy_alloc w6 (.cells #[.int .i64 1, .int .i64 r, .string E, .bool false] 28) none).block w5.heap.size (Array.getElem?_eq_some_iff.1 Q4_6.out).1 (by simp)).trans Q4_6.out)
  have P5_6 := Lib.hid (World.alloc_heap_new w6 (.cells #[.int .i64 1, .int .i64 r, .string E, .bool false] 28))
  have c5_0 := cell_fr (i := 0) P5_6.out rfl
  have c5_1 := cell_fr (i := 1) P5_6.out rfl
  have c5_2 := cell_fr (i := 2) P5_6.out rfl
  have c5_3 := cell_fr (i := 3) P5_6.out rfl
  clear hb6
  go_wp2_with fail
  clear c5_0 c5_1 c5_2 c5_3
  refine (alive_w _).mono ?_
  rintro e w7 ⟨rfl, hb7⟩
  have HB7 := Lib.hid (show Below w.heap.size w w7 from HBX6.out.trans (hb7.mono HBX6.out.size))
  have Q0_7 := Lib.hid ((hb7.block w1.heap.size (Array.getElem?_eq_some_iff.1 P0_6.out).1).trans P0_6.out)
  have Q1_7 := Lib.hid ((hb7.block w2.heap.size (Array.getElem?_eq_some_iff.1 P1_6.out).1).trans P1_6.out)
  have Q2_7 := Lib.hid ((hb7.block w3.heap.size (Array.getElem?_eq_some_iff.1 P2_6.out).1).trans P2_6.out)
  have Q3_7 := Lib.hid ((hb7.block w4.heap.size (Array.getElem?_eq_some_iff.1 P3_6.out).1).trans P3_6.out)
  have Q4_7 := Lib.hid ((hb7.block w5.heap.size (Array.getElem?_eq_some_iff.1 P4_6.out).1).trans P4_6.out)
  have Q5_7 := Lib.hid ((hb7.block w6.heap.size (Array.getElem?_eq_some_iff.1 P5_6.out).1).trans P5_6.out)
  have HBX7 := HB7
  have P0_7 := Q0_7
  have P1_7 := Q1_7
  have P2_7 := Q2_7
  have P3_7 := Q3_7
  have P4_7 := Q4_7
  have P5_7 := Q5_7
  clear hb7
  go_wp2_with fail
  go_ret
  exact ⟨rfl, HB7.out⟩
set_option maxHeartbeats 2000000 in
set_option maxRecDepth 100000 in
theorem num_m2_n (a b q p r : Int) (w : World) (HADD : Hid (liftF 1 1 1 (addF a b) = (0, 0, E, false, sRange))) (HDIV : Hid (liftF 1 1 1 (divF a b) = (1, q, E, false, sDone))) (HFQ : Hid (Fit q)) (HFB : Hid (Fit b)) (HMUL : Hid (liftF 1 1 1 (mulF q b) = (1, p, E, false, sDone))) (HSUB : Hid (liftF 1 1 1 (subF a p) = (1, r, E, false, sDone))) (t1 : (r == 0) = false) (t2 : decide (0 < r) = false) (t3 : decide (0 < a) = false) (t6 : decide (r < 0) = true) (t4 : decide (b < r) = false) (t5 : decide (wrap64 (-r) < b) = true) : Calls Tryd.prog 8 #[.int .i64 a, .int .i64 b] w fun e w' => e = .returned (.bool true) ∧ Below w.heap.size w w' := by
  go_enter Tryd.func8, Tryd.ntmps8
  go_wp2_with fail
  refine (num30 a _).mono ?_
  rintro e w1 ⟨rfl, hb1⟩
  have HB1 := Lib.hid (show Below w.heap.size w w1 from hb1)
  have HBX1 := Lib.hid (HB1.out.alloc HB1.out.size (.cells #[.int .i64 1, .int .i64 a, .string E, .bool false] 28))
  have P0_1 := Lib.hid (World.alloc_heap_new w1 (.cells #[.int .i64 1, .int .i64 a, .string E, .bool false] 28))
  clear hb1
  go_wp2_with fail
  refine (num30 b _).mono ?_
  rintro e w2 ⟨rfl, hb2⟩
  have HB2 := Lib.hid (show Below w.heap.size w w2 from HBX1.out.trans (hb2.mono HBX1.out.size))
  have Q0_2 := Lib.hid ((hb2.block w1.heap.size (Array.getElem?_eq_some_iff.1 P0_1.out).1).trans P0_1.out)
  have HBX2 := Lib.hid (HB2.out.alloc HB2.out.size (.cells #[.int .i64 1, .int .i64 b, .string E, .bool false] 28))
  have P0_2 := Lib.hid (((World.grownBy_alloc w2 (.cells #[.int .i64 1, .int .i64 b, .string E, .bool false] 28) none).block w1.heap.size (Array.getElem?_eq_some_iff.1 Q0_2.out).1 (by simp)).trans Q0_2.out)
  have P1_2 := Lib.hid (World.alloc_heap_new w2 (.cells #[.int .i64 1, .int .i64 b, .string E, .bool false] 28))
  have c0_0 := cell_fr (i := 0) P0_2.out rfl
  have c0_1 := cell_fr (i := 1) P0_2.out rfl
  have c0_2 := cell_fr (i := 2) P0_2.out rfl
  have c0_3 := cell_fr (i := 3) P0_2.out rfl
  have c1_0 := cell_fr (i := 0) P1_2.out rfl
  have c1_1 := cell_fr (i := 1) P1_2.out rfl
  have c1_2 := cell_fr (i := 2) P1_2.out rfl
  have c1_3 := cell_fr (i := 3) P1_2.out rfl
  clear hb2
  go_wp2_with fail
  clear c0_0 c0_1 c0_2 c0_3 c1_0 c1_1 c1_2 c1_3
  refine (add_raw 1 a E false 1 b E false 0 0 E false sRange _ HADD.out).mono ?_
  rintro e w3 ⟨rfl, hb3⟩
  have HB3 := Lib.hid (show Below w.heap.size w w3 from HBX2.out.trans (hb3.mono HBX2.out.size))
  have Q0_3 := Lib.hid ((hb3.block w1.heap.size (Array.getElem?_eq_some_iff.1 P0_2.out).1).trans P0_2.out)
  have Q1_3 := Lib.hid ((hb3.block w2.heap.size (Array.getElem?_eq_some_iff.1 P1_2.out).1).trans P1_2.out)
  have HBX3 := Lib.hid (HB3.out.alloc HB3.out.size (.cells #[.int .i64 0, .int .i64 0, .string E, .bool false] 28))
  have P0_3 := Lib.hid (((World.grownBy_alloc w3 (.cells #[.int .i64 0, .int .i64 0, .string E, .bool false] 28) none).block w1.heap.size (Array.getElem?_eq_some_iff.1 Q0_3.out).1 (by simp)).trans Q0_3.out)
  have P1_3 := Lib.hid (((World.grownBy_alloc w3 (.cells #[.int .i64 0, .int .i64 0, .string E, .bool false] 28) none).block w2.heap.size (Array.getElem?_eq_some_iff.1 Q1_3.out).1 (by simp)).trans Q1_3.out)
  have P2_3 := Lib.hid (World.alloc_heap_new w3 (.cells #[.int .i64 0, .int .i64 0, .string E, .bool false] 28))
  have c0_0 := cell_fr (i := 0) P0_3.out rfl
  have c0_1 := cell_fr (i := 1) P0_3.out rfl
  have c0_2 := cell_fr (i := 2) P0_3.out rfl
  have c0_3 := cell_fr (i := 3) P0_3.out rfl
  have c1_0 := cell_fr (i := 0) P1_3.out rfl
  have c1_1 := cell_fr (i := 1) P1_3.out rfl
  have c1_2 := cell_fr (i := 2) P1_3.out rfl
  have c1_3 := cell_fr (i := 3) P1_3.out rfl
  clear hb3
  go_wp2_with fail
  clear c0_0 c0_1 c0_2 c0_3 c1_0 c1_1 c1_2 c1_3
  refine (div_raw 1 a E false 1 b E false 1 q E false sDone _ HDIV.out).mono ?_
  rintro e w4 ⟨rfl, hb4⟩
  have HB4 := Lib.hid (show Below w.heap.size w w4 from HBX3.out.trans (hb4.mono HBX3.out.size))
  have Q0_4 := Lib.hid ((hb4.block w1.heap.size (Array.getElem?_eq_some_iff.1 P0_3.out).1).trans P0_3.out)
  have Q1_4 := Lib.hid ((hb4.block w2.heap.size (Array.getElem?_eq_some_iff.1 P1_3.out).1).trans P1_3.out)
  have Q2_4 := Lib.hid ((hb4.block w3.heap.size (Array.getElem?_eq_some_iff.1 P2_3.out).1).trans P2_3.out)
  have HBX4 := Lib.hid (HB4.out.alloc HB4.out.size (.cells #[.int .i64 1, .int .i64 q, .string E, .bool false] 28))
  have P0_4 := Lib.hid (((World.grownBy_alloc w4 (.cells #[.int .i64 1, .int .i64 q, .string E, .bool false] 28) none).block w1.heap.size (Array.getElem?_eq_some_iff.1 Q0_4.out).1 (by simp)).trans Q0_4.out)
  have P1_4 := Lib.hid (((World.grownBy_alloc w4 (.cells #[.int .i64 1, .int .i64 q, .string E, .bool false] 28) none).block w2.heap.size (Array.getElem?_eq_some_iff.1 Q1_4.out).1 (by simp)).trans Q1_4.out)
  have P2_4 := Lib.hid (((World.grownBy_alloc w4 (.cells #[.int .i64 1, .int .i64 q, .string E, .bool false] 28) none).block w3.heap.size (Array.getElem?_eq_some_iff.1 Q2_4.out).1 (by simp)).trans Q2_4.out)
  have P3_4 := Lib.hid (World.alloc_heap_new w4 (.cells #[.int .i64 1, .int .i64 q, .string E, .bool false] 28))
  have c3_0 := cell_fr (i := 0) P3_4.out rfl
  have c3_1 := cell_fr (i := 1) P3_4.out rfl
  have c3_2 := cell_fr (i := 2) P3_4.out rfl
  have c3_3 := cell_fr (i := 3) P3_4.out rfl
  have c1_0 := cell_fr (i := 0) P1_4.out rfl
  have c1_1 := cell_fr (i := 1) P1_4.out rfl
  have c1_2 := cell_fr (i := 2) P1_4.out rfl
  have c1_3 := cell_fr (i := 3) P1_4.out rfl
  clear hb4
  go_wp2_with fail
  clear c3_0 c3_1 c3_2 c3_3 c1_0 c1_1 c1_2 c1_3
  refine (mul_raw 1 q E false 1 b E false 1 p E false sDone _ HFQ.out HFB.out HMUL.out).mono ?_
  rintro e w5 ⟨rfl, hb5⟩
  have HB5 := Lib.hid (show Below w.heap.size w w5 from HBX4.out.trans (hb5.mono HBX4.out.size))
  have Q0_5 := Lib.hid ((hb5.block w1.heap.size (Array.getElem?_eq_some_iff.1 P0_4.out).1).trans P0_4.out)
  have Q1_5 := Lib.hid ((hb5.block w2.heap.size (Array.getElem?_eq_some_iff.1 P1_4.out).1).trans P1_4.out)
  have Q2_5 := Lib.hid ((hb5.block w3.heap.size (Array.getElem?_eq_some_iff.1 P2_4.out).1).trans P2_4.out)
  have Q3_5 := Lib.hid ((hb5.block w4.heap.size (Array.getElem?_eq_some_iff.1 P3_4.out).1).trans P3_4.out)
  have HBX5 := Lib.hid (HB5.out.alloc HB5.out.size (.cells #[.int .i64 1, .int .i64 p, .string E, .bool false] 28))
  have P0_5 := Lib.hid (((World.grownBy_alloc w5 (.cells #[.int .i64 1, .int .i64 p, .string E, .bool false] 28) none).block w1.heap.size (Array.getElem?_eq_some_iff.1 Q0_5.out).1 (by simp)).trans Q0_5.out)
  have P1_5 := Lib.hid (((World.grownBy_alloc w5 (.cells #[.int .i64 1, .int .i64 p, .string E, .bool false] 28) none).block w2.heap.size (Array.getElem?_eq_some_iff.1 Q1_5.out).1 (by simp)).trans Q1_5.out)
  have P2_5 := Lib.hid (((World.grownBy_alloc w5 (.cells #[.int .i64 1, .int .i64 p, .string E, .bool false] 28) none).block w3.heap.size (Array.getElem?_eq_some_iff.1 Q2_5.out).1 (by simp)).trans Q2_5.out)
  have P3_5 := Lib.hid (((World.grownBy_alloc w5 (.cells #[.int .i64 1, .int .i64 p, .string E, .bool false] 28) none).block w4.heap.size (Array.getElem?_eq_some_iff.1 Q3_5.out).1 (by simp)).trans Q3_5.out)
  have P4_5 := Lib.hid (World.alloc_heap_new w5 (.cells #[.int .i64 1, .int .i64 p, .string E, .bool false] 28))
  have c0_0 := cell_fr (i := 0) P0_5.out rfl
  have c0_1 := cell_fr (i := 1) P0_5.out rfl
  have c0_2 := cell_fr (i := 2) P0_5.out rfl
  have c0_3 := cell_fr (i := 3) P0_5.out rfl
  have c4_0 := cell_fr (i := 0) P4_5.out rfl
  have c4_1 := cell_fr (i := 1) P4_5.out rfl
  have c4_2 := cell_fr (i := 2) P4_5.out rfl
  have c4_3 := cell_fr (i := 3) P4_5.out rfl
  clear hb5
  go_wp2_with fail
  clear c0_0 c0_1 c0_2 c0_3 c4_0 c4_1 c4_2 c4_3
  refine (sub_raw 1 a E false 1 p E false 1 r E false sDone _ HSUB.out).mono ?_
  rintro e w6 ⟨rfl, hb6⟩
  have HB6 := Lib.hid (show Below w.heap.size w w6 from HBX5.out.trans (hb6.mono HBX5.out.size))
  have Q0_6 := Lib.hid ((hb6.block w1.heap.size (Array.getElem?_eq_some_iff.1 P0_5.out).1).trans P0_5.out)
  have Q1_6 := Lib.hid ((hb6.block w2.heap.size (Array.getElem?_eq_some_iff.1 P1_5.out).1).trans P1_5.out)
  have Q2_6 := Lib.hid ((hb6.block w3.heap.size (Array.getElem?_eq_some_iff.1 P2_5.out).1).trans P2_5.out)
  have Q3_6 := Lib.hid ((hb6.block w4.heap.size (Array.getElem?_eq_some_iff.1 P3_5.out).1).trans P3_5.out)
  have Q4_6 := Lib.hid ((hb6.block w5.heap.size (Array.getElem?_eq_some_iff.1 P4_5.out).1).trans P4_5.out)
  have HBX6 := Lib.hid (HB6.out.alloc HB6.out.size (.cells #[.int .i64 1, .int .i64 r, .string E, .bool false] 28))
  have P0_6 := Lib.hid (((World.grownBy_alloc w6 (.cells #[.int .i64 1, .int .i64 r, .string E, .bool false] 28) none).block w1.heap.size (Array.getElem?_eq_some_iff.1 Q0_6.out).1 (by simp)).trans Q0_6.out)
  have P1_6 := Lib.hid (((World.grownBy_alloc w6 (.cells #[.int .i64 1, .int .i64 r, .string E, .bool false] 28) none).block w2.heap.size (Array.getElem?_eq_some_iff.1 Q1_6.out).1 (by simp)).trans Q1_6.out)
  have P2_6 := Lib.hid (((World.grownBy_alloc w6 (.cells #[.int .i64 1, .int .i64 r, .string E, .bool false] 28) none).block w3.heap.size (Array.getElem?_eq_some_iff.1 Q2_6.out).1 (by simp)).trans Q2_6.out)
  have P3_6 := Lib.hid (((World.grownBy_alloc w6 (.cells #[.int .i64 1, .int .i64 r, .string E, .bool false] 28) none).block w4.heap.size (Array.getElem?_eq_some_iff.1 Q3_6.out).1 (by simp)).trans Q3_6.out)
  have P4_6 := Lib.hid (((World.grownBy_alloc w6 (.cells #[.int .i64 1, .int .i64 r, .string E, .bool false] 28) none).block w5.heap.size (Array.getElem?_eq_some_iff.1 Q4_6.out).1 (by simp)).trans Q4_6.out)
  have P5_6 := Lib.hid (World.alloc_heap_new w6 (.cells #[.int .i64 1, .int .i64 r, .string E, .bool false] 28))
  have c5_0 := cell_fr (i := 0) P5_6.out rfl
  have c5_1 := cell_fr (i := 1) P5_6.out rfl
  have c5_2 := cell_fr (i := 2) P5_6.out rfl
  have c5_3 := cell_fr (i := 3) P5_6.out rfl
  clear hb6
  go_wp2_with fail
  clear c5_0 c5_1 c5_2 c5_3
  refine (alive_w _).mono ?_
  rintro e w7 ⟨rfl, hb7⟩
  have HB7 := Lib.hid (show Below w.heap.size w w7 from HBX6.out.trans (hb7.mono HBX6.out.size))
  have Q0_7 := Lib.hid ((hb7.block w1.heap.size (Array.getElem?_eq_some_iff.1 P0_6.out).1).trans P0_6.out)
  have Q1_7 := Lib.hid ((hb7.block w2.heap.size (Array.getElem?_eq_some_iff.1 P1_6.out).1).trans P1_6.out)
  have Q2_7 := Lib.hid ((hb7.block w3.heap.size (Array.getElem?_eq_some_iff.1 P2_6.out).1).trans P2_6.out)
  have Q3_7 := Lib.hid ((hb7.block w4.heap.size (Array.getElem?_eq_some_iff.1 P3_6.out).1).trans P3_6.out)
  have Q4_7 := Lib.hid ((hb7.block w5.heap.size (Array.getElem?_eq_some_iff.1 P4_6.out).1).trans P4_6.out)
  have Q5_7 := Lib.hid ((hb7.block w6.heap.size (Array.getElem?_eq_some_iff.1 P5_6.out).1).trans P5_6.out)
  have HBX7 := HB7
  have P0_7 := Q0_7
  have P1_7 := Q1_7
  have P2_7 := Q2_7
  have P3_7 := Q3_7
  have P4_7 := Q4_7
  have P5_7 := Q5_7
  clear hb7
  go_wp2_with fail
  go_ret
  exact ⟨rfl, HB7.out⟩
theorem fit_of {a : Int} (w : (Lit.int .i64 a).wf = true) : Fit a := by
  simp only [Lit.wf, Bool.and_eq_true, decide_eq_true_eq] at w; exact w
theorem valueNumbers_walk (a b : Int) (w : World) (w0 : (Lit.int .i64 a).wf = true) (w1 : (Lit.int .i64 b).wf = true) : Calls Tryd.prog 8 #[.int .i64 a, .int .i64 b] w fun e w' => e = .returned (.bool true) ∧ Below w.heap.size w w' := by
  have fa := fit_of w0
  have fb := fit_of w1
  obtain ⟨c, hc⟩ : ∃ c, wrap64 (a + b) = c := ⟨_, rfl⟩
  cases hok : (decide (a < c) == decide (0 < b))
  · have ha := add_no a b c hc hok
    by_cases hb0 : b = 0
    · exact num_zero_n _ _ w ha hb0 (by subst hb0; exact div_zero a)
    by_cases hd : a ≠ -9223372036854775808 ∨ b ≠ -1
    · have g1 := div_yes a b fa hb0 hd
      have g2 := tdiv_fit a b fa hb0 hd
      have g3 := mul_yes a b fa hb0
      have g4 := rest_yes a b fa hb0
      obtain ⟨_, h0 | ⟨r0, r1, r2, r3⟩ | ⟨r0, r1, r2, r3⟩⟩ := rest_ok a b hb0
      · exact num_rz_n _ _ _ _ _ w ha g1 g2 fb g3 g4 (beq_iff_eq.2 h0)
      · have t1 : (a.tmod b == 0) = false := beq_false_of_ne (by omega)
        by_cases h : a.tmod b < b
        · exact num_p1_n _ _ _ _ _ w ha g1 g2 fb g3 g4 t1 (decide_eq_true r0) (decide_eq_true r1) (decide_eq_true h)
        · exact num_p2_n _ _ _ _ _ w ha g1 g2 fb g3 g4 t1 (decide_eq_true r0) (decide_eq_true r1) (decide_eq_false h) (decide_eq_true (by unfold Fit at fa; unfold wrap64; omega))
      · have t1 : (a.tmod b == 0) = false := beq_false_of_ne (by omega)
        by_cases h : b < a.tmod b
        · exact num_m1_n _ _ _ _ _ w ha g1 g2 fb g3 g4 t1 (decide_eq_false (by omega)) (decide_eq_false (by omega)) (decide_eq_true r0) (decide_eq_true h)
        · exact num_m2_n _ _ _ _ _ w ha g1 g2 fb g3 g4 t1 (decide_eq_false (by omega)) (decide_eq_false (by omega)) (decide_eq_true r0) (decide_eq_false h) (decide_eq_true (by unfold Fit at fa; unfold wrap64; omega))
    · have ea : a = -9223372036854775808 := by omega
      have eb : b = -1 := by omega
      exact num_no_n _ _ w ha eb (by rw [ea, eb]; exact div_no)
  · have ha := add_yes a b c hc hok
    have hk := back_yes a b c fa fb hc hok
    by_cases hb0 : b = 0
    · exact num_zero_y _ _ _ w ha hk hb0 (by subst hb0; exact div_zero a)
    by_cases hd : a ≠ -9223372036854775808 ∨ b ≠ -1
    · have g1 := div_yes a b fa hb0 hd
      have g2 := tdiv_fit a b fa hb0 hd
      have g3 := mul_yes a b fa hb0
      have g4 := rest_yes a b fa hb0
      obtain ⟨_, h0 | ⟨r0, r1, r2, r3⟩ | ⟨r0, r1, r2, r3⟩⟩ := rest_ok a b hb0
      · exact num_rz_y _ _ _ _ _ _ w ha hk g1 g2 fb g3 g4 (beq_iff_eq.2 h0)
      · have t1 : (a.tmod b == 0) = false := beq_false_of_ne (by omega)
        by_cases h : a.tmod b < b
        · exact num_p1_y _ _ _ _ _ _ w ha hk g1 g2 fb g3 g4 t1 (decide_eq_true r0) (decide_eq_true r1) (decide_eq_true h)
        · exact num_p2_y _ _ _ _ _ _ w ha hk g1 g2 fb g3 g4 t1 (decide_eq_true r0) (decide_eq_true r1) (decide_eq_false h) (decide_eq_true (by unfold Fit at fa; unfold wrap64; omega))
      · have t1 : (a.tmod b == 0) = false := beq_false_of_ne (by omega)
        by_cases h : b < a.tmod b
        · exact num_m1_y _ _ _ _ _ _ w ha hk g1 g2 fb g3 g4 t1 (decide_eq_false (by omega)) (decide_eq_false (by omega)) (decide_eq_true r0) (decide_eq_true h)
        · exact num_m2_y _ _ _ _ _ _ w ha hk g1 g2 fb g3 g4 t1 (decide_eq_false (by omega)) (decide_eq_false (by omega)) (decide_eq_true r0) (decide_eq_false h) (decide_eq_true (by unfold Fit at fa; unfold wrap64; omega))
    · have ea : a = -9223372036854775808 := by omega
      have eb : b = -1 := by omega
      exact num_no_y _ _ _ w ha hk eb (by rw [ea, eb]; exact div_no)
end Vl
end Go.Proofs.YtlmkhpgnkpgbdaaDoor

namespace Go.Proofs.YtlmkhpgnkpgbdaaDoor.valueNumbers
open Go.ChangeShapes Go.WideShapes Go.ChangeAt Go.RowKit
open Go.ChangeMaps (open_string shut_string)
open Go.Joins Go.Deep
set_option linter.unusedVariables false
set_option linter.unusedSimpArgs false
set_option maxRecDepth 100000 in
theorem contract (H : Type) (enc : TypeId × Value → H) (W : World) (base : Nat) (args : Array Value) (ds gs : List (DataW H)) (before : List MemPlace)
    (hval0 : ∀ (j : Nat) t v, Tryd.f8.params[j]? = some t → args[j]? = some v → Value.okWide Tryd.prog W .any base t v)
    (hW : DataW.Whole enc Tryd.prog Tryd.f8.params.toList Rows.valueNumbersSpec.vars false W args.toList ds gs before)
    (hsz0 : (DataW.weightsEach Tryd.prog (Tryd.f8.params.toList ++ (OpenSpec.ofChange Rows.valueNumbersSpec).bare.plain.varTypes Tryd.prog) (ds ++ gs)).all (· ≤ reachBytes) = true) :
    Calls Tryd.prog 8 args W fun e W' => ∃ v, e = .returned v ∧ Rows.valueNumbersSpec.post enc Tryd.prog Tryd.f8 false true false false W args v W' := by
  have hval := hval0
  have hW' := hW
  obtain ⟨p, q, hA0, hV, rfl, hfz, hnd⟩ := hW
  have hA : DataW.TrodAll enc Tryd.prog W 0 (fun _ => true) true Tryd.f8.params.toList args.toList ds p := hA0
  have hsz := hsz0
  rw [Tryd.params8] at hA hval hsz
  obtain ⟨v0, vs0, d0, ds0, p0, q0, hargs, rfl, rfl, h0, r0⟩ := trodAll_cons hA
  obtain ⟨v1, vs1, d1, ds1, p1, q1, rfl, rfl, rfl, h1, r1⟩ := trodAll_cons r0
  obtain ⟨rfl, rfl, rfl⟩ := trodAll_nil r1
  obtain rfl : args = #[v0, v1] := by cases args; simp_all
  obtain ⟨rfl, rfl⟩ := trodVars_none hV
  have k0 := h0
  have lt0 : ∀ x ∈ p0, x.block < W.heap.size := by obtain ⟨m, hm⟩ := k0; exact DataW.trod_lt m _ _ _ hm
  obtain ⟨a0, rfl, rfl, rfl, w0⟩ := open_int Tryd.underlying2 (hval 0 2 v0 rfl rfl) h0
  have k1 := h1
  have lt1 : ∀ x ∈ p1, x.block < W.heap.size := by obtain ⟨m, hm⟩ := k1; exact DataW.trod_lt m _ _ _ hm
  obtain ⟨a1, rfl, rfl, rfl, w1⟩ := open_int Tryd.underlying2 (hval 1 2 v1 rfl rfl) h1
  clear hA0 hval0 hsz hsz0
  refine (Vl.valueNumbers_walk a0 a1 W w0 w1).mono fun e W' ⟨he, bel⟩ => ?_
  subst he
  exact ⟨_, rfl, _, _, _, [], _, [], hW', trodAll_mk1 (shut_bool Tryd.underlying4 _), (trodAll_cons_mk (Below.trod Vl.laidOut (by kernel_rfl) (of_decide_eq_true (by kernel_rfl)) k0 bel lt0) (trodAll_cons_mk (Below.trod Vl.laidOut (by kernel_rfl) (of_decide_eq_true (by kernel_rfl)) k1 bel lt1) trodAll_mk0)), rfl, bel.frame _, fun h => by cases h⟩
theorem laid_met (os : Os) : laidMet Tryd.prog Rows.valueNumbersRow.laid ((Vl.laidWorld os).forCall (fun _ _ => 0) ⟨#[], #[.int .i64 0, .int .i64 0], []⟩).memory :=
  laidMet_of_run' 8 (by kernel_rfl) (by kernel_rfl)
theorem reads (os : Os) {H : Type} (enc : TypeId × Value → H) : ∃ places, DataW.whole enc Tryd.prog ((Vl.laidWorld os).forCall (fun _ _ => 0) ⟨#[], #[.int .i64 0, .int .i64 0], []⟩).memory Tryd.f8.params.toList Rows.valueNumbersSpec.vars false (#[.int .i64 0, .int .i64 0] : Array Value).toList 8 = some ([.lit (.int .i64 0), .lit (.int .i64 0)], [], places) :=
  ⟨[], by kernel_rfl⟩
set_option maxRecDepth 100000 in
theorem lifted (os : Os) (started : os.Started) (H : Type) (enc : TypeId × Value → H) (F : Stop.Interp) :
    ReturnsInHanded {} Tryd.checked os 8 .any ((OpenSpec.ofChange Rows.valueNumbersSpec).preRow enc Tryd.prog Tryd.f8 Rows.valueNumbersRow.domain false Rows.valueNumbersRow.laid) (((OpenSpec.ofChange Rows.valueNumbersSpec).at F).post enc Tryd.prog Tryd.f8 false true false false) := by
  obtain ⟨places, hx⟩ := reads os enc
  refine returnsInHanded_of_row (C := Tryd.checked) (s := OpenSpec.ofChange Rows.valueNumbersSpec) Vl.own started (by kernel_rfl) Tryd.func8
    (witness_row_at (enc := enc) (C := Tryd.checked) false (Vl.laidWorld os) #[.int .i64 0, .int .i64 0] rfl (by kernel_rfl) (by kernel_rfl) (by kernel_rfl)
      (OpenSpec.preRow_of_cond 8 hx (by kernel_rfl) (fun k hk => by cases hk) (by kernel_rfl) (laid_met os))) ?_
  intro W base args ds gs before hval hW _ _ hsz _ _ _
  exact contract H enc W base args ds gs before hval hW hsz
theorem said : Rows.ValueNumbersSaid :=
  OpenClaim.holds_of_cond 8 Tryd.f8 rfl rfl rfl rfl rfl rfl rfl ⟨rfl, rfl, rfl, rfl, rfl⟩ rfl rfl rfl rfl rfl (by kernel_rfl) Tryd.func8 (by kernel_rfl)
    (of_decide_eq_true (by kernel_rfl)) (by unfold Func.isWrapper; first | (rw [if_pos (by decide +kernel)]; kernel_rfl) | (rw [if_neg (by decide +kernel)]; exact ⟨rfl, rfl⟩))
    (fun os started H enc _ F => by rw [OpenClaim.pre_eq_preRow]; exact lifted os started H enc F)
theorem plain (f : FuncId) (fn : Func) (hf : Tryd.pinned.checked.prog.funcNamed "stile/stilelaw01.ValueNumbers" = some f) (hfn : Tryd.pinned.checked.prog.funcs[f]? = some fn) :
    false = Tryd.pinned.checked.prog.looks [] ∧ ∀ (j : Nat) t, fn.params[j]? = some t → Tryd.pinned.checked.prog.wantsStandIn t = false := by
  obtain rfl : f = 8 := Option.some.inj ((show Tryd.prog.funcNamed "stile/stilelaw01.ValueNumbers" = some 8 by kernel_rfl).symm.trans hf) |>.symm
  obtain rfl : fn = Tryd.f8 := (Option.some.inj (Tryd.func8.symm.trans hfn)).symm
  refine ⟨by kernel_rfl, fun j t ht => ?_⟩
  rw [Tryd.params8] at ht
  have hm : t ∈ [2, 2] := by simpa using Array.mem_of_getElem? ht
  have hall : ([2, 2].all fun u => !Tryd.prog.wantsStandIn u) = true := by kernel_rfl
  exact (show Tryd.prog.wantsStandIn t = false by simpa using List.all_eq_true.1 hall t hm)
end Go.Proofs.YtlmkhpgnkpgbdaaDoor.valueNumbers
namespace Go.Proofs.YtlmkhpgnkpgbdaaDoor
/-- THE CARD: the row, its two tables tied to the program's text. -/
theorem valueNumbers_card : Rows.ValueNumbersCardSaid :=
  Claim7.holds_tied_plain_at .later [] _ _ _ _ valueNumbers.said (fun _ h => by cases h) (by kernel_rfl) (fun _ h => by cases h) valueNumbers_row_tie rfl ⟨rfl, rfl⟩ (by kernel_rfl) rfl valueNumbers.plain (by kernel_rfl)
#print axioms valueNumbers_card
end Go.Proofs.YtlmkhpgnkpgbdaaDoor
