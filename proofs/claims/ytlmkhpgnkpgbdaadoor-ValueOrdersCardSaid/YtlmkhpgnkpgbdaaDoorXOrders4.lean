/-
  Which values are right, how they stand, and what a comparison of them comes to, is as the document says; whatever the sign is. It is proved for every input; the row lists two package-level tables of Go's package unicode/utf8 (tied to the program's text; one of them is pinned).
-/
import Derived.Test.YtlmkhpgnkpgbdaaDoorXOrders1
import Derived.Test.YtlmkhpgnkpgbdaaDoorXOrders2
import Derived.Test.YtlmkhpgnkpgbdaaDoorXOrders3
namespace Go.Proofs.YtlmkhpgnkpgbdaaDoor.PVALUE
open Go.RowKit Go.Proofs.YtlmkhpgnkpgbdaaDoorW.PrintWords Go.Proofs.YtlmkhpgnkpgbdaaDoorW.PrintLast Go.Proofs.YtlmkhpgnkpgbdaaDoorW.PrintMore
attribute [local go_sem] max2_int min2_int max_two min_two max_three min_three max_four min_four   -- for this text's walks alone
set_option linter.unusedVariables false
set_option linter.unusedSimpArgs false

/-! ### stilelaw01_ValueOrders: function 11 -/
def stilelaw01_ValueOrders.f (k : Nat) (a0_0 : Int) (a0_1 : Int) (a0_2 : ByteArray) (a0_3 : Bool) (a1_0 : Int) (a1_1 : Int) (a1_2 : ByteArray) (a1_3 : Bool) (a2 : ByteArray) : Option (Bool) := (stilelaw01_Raw_Value.f a0_0 a0_1 a0_2 a0_3).bind fun bt560 => ((stilelaw01_Raw_Value.f a1_0 a1_1 a1_2 a1_3).bind fun bt565 => ((value_Test.f k a2 bt560.1 bt560.2.1 bt560.2.2.1 bt560.2.2.2 bt565.1 bt565.2.1 bt565.2.2.1 bt565.2.2.2).bind fun bt571 => ((stileref01_Test.f k a2 bt560.1 bt560.2.1 bt560.2.2.1 bt560.2.2.2 bt565.1 bt565.2.1 bt565.2.2.1 bt565.2.2.2).bind fun bt573 => ((stilelaw01_alive.f k).bind fun t575 => (if t575 = true then ((value_Right.f a0_0 a0_1 a0_2 a0_3).bind fun t576 => ((stileref01_Right.f a0_0 a0_1 a0_2 a0_3).bind fun t577 => (if (t576 == t577) = true then ((value_Right.f bt560.1 bt560.2.1 bt560.2.2.1 bt560.2.2.2).bind fun t578 => (if t578 = true then ((value_Order.f bt560.1 bt560.2.1 bt560.2.2.1 bt560.2.2.2 bt565.1 bt565.2.1 bt565.2.2.1 bt565.2.2.2).bind fun t579 => ((stileref01_Order.f k bt560.1 bt560.2.1 bt560.2.2.1 bt560.2.2.2 bt565.1 bt565.2.1 bt565.2.2.1 bt565.2.2.2).bind fun t580 => (if t579 = t580 then (if bt571.1 = bt573.1 then (some (bt571.2.toList == bt573.2.toList)) else (none)) else (none)))) else (none))) else (none)))) else (none))))))
theorem stilelaw01_ValueOrders.mono : ∀ a0 a1 a2 a3 a4 a5 a6 a7 a8 k, LeO (stilelaw01_ValueOrders.f k a0 a1 a2 a3 a4 a5 a6 a7 a8) (stilelaw01_ValueOrders.f (k + 1) a0 a1 a2 a3 a4 a5 a6 a7 a8) := by
  intro a0 a1 a2 a3 a4 a5 a6 a7 a8 k
  unfold stilelaw01_ValueOrders.f
  repeat' first
      | (with_reducible exact stilelaw01_alive.mono _)
      | (with_reducible exact stileref01_Order.mono _ _ _ _ _ _ _ _ _)
      | (with_reducible exact stileref01_Test.mono _ _ _ _ _ _ _ _ _ _)
      | (with_reducible exact value_Test.mono _ _ _ _ _ _ _ _ _ _)
      | (with_reducible exact LeO.refl _)
      | (with_reducible exact LeO.none _)
      | (with_reducible refine LeO.ite ?_ ?_)
      | (with_reducible refine LeO.bind ?_ (fun _ => ?_))
      | exact stilelaw01_alive.mono _
      | exact stileref01_Order.mono _ _ _ _ _ _ _ _ _
      | exact stileref01_Test.mono _ _ _ _ _ _ _ _ _ _
      | exact value_Test.mono _ _ _ _ _ _ _ _ _ _
      | exact LeO.none _
      | refine LeO.ite ?_ ?_
      | refine LeO.bind ?_ (fun _ => ?_)
def stilelaw01_ValueOrders.T6 : Bool × List (List Nat × List Nat) := (true, [([], []), ([0, 0], [0]), ([1], [1]), ([2, 1, 1], [1, 2]), ([1], [1]), ([4, 3, 1], [1, 4]), ([3, 5, 1], [1, 3, 5]), ([1, 6], [1, 6]), ([7, 5], [7]), ([8], [8]), ([9, 8, 8], [8, 9]), ([8, 10], [8, 10]), ([11, 10], [11]), ([12], [12]), ([12], [12]), ([13, 14, 12, 12], [12, 13, 14]), ([12], [12]), ([12], [12]), ([16, 17, 15, 12], [12, 16, 17]), ([15, 18, 12], [12, 15, 18]), ([12, 19], [12, 19]), ([20, 18], [20]), ([21], [21]), ([21], [21]), ([22, 23, 21], [21, 22, 23]), ([21, 24], [21, 24]), ([25, 21], [25]), ([26], [26]), ([26], [26]), ([27, 28, 26], [26, 27, 28]), ([26, 29], [26, 29]), ([30, 26, 0, 1, 2, 3, 4, 5, 6, 7, 8, 9, 10, 11, 12, 13, 14, 15, 16, 17, 18, 19, 20, 21, 22, 23, 24, 25, 26, 27, 28, 29, 30], [30])])
def stilelaw01_ValueOrders.B6 : List Nat := [0, 1, 3, 7, 3, 31, 63, 127, 255, 511, 1023, 2047, 4095, 8191, 8191, 32767, 8191, 8191, 262143, 524287, 1048575, 2097151, 4194303, 4194303, 16777215, 33554431, 67108863, 134217727, 134217727, 536870911, 1073741823, 2147483647]
theorem stilelaw01_ValueOrders.tab6 : rtab .any (opsOf Tryd.f11 6) = stilelaw01_ValueOrders.T6 := by kernel_rfl
theorem stilelaw01_ValueOrders.bits6 : waitsOk stilelaw01_ValueOrders.T6.2 stilelaw01_ValueOrders.B6 = true := by kernel_rfl
set_option maxHeartbeats 8000000 in
set_option maxRecDepth 100000 in
theorem stilelaw01_ValueOrders.calls (k : Nat) (a0_0 : Int) (a0_1 : Int) (a0_2 : ByteArray) (a0_3 : Bool) (a1_0 : Int) (a1_1 : Int) (a1_2 : ByteArray) (a1_3 : Bool) (a2 : ByteArray) (r : Bool) (w : World) (h : stilelaw01_ValueOrders.f k a0_0 a0_1 a0_2 a0_3 a1_0 a1_1 a1_2 a1_3 a2 = some r) :
    Calls Tryd.prog 11 #[.agg #[.int .i64 a0_0, .int .i64 a0_1, .string a0_2, .bool a0_3], .agg #[.int .i64 a1_0, .int .i64 a1_1, .string a1_2, .bool a1_3], .string a2] w fun e w' => e = .returned (.bool r) ∧ Below w.heap.size w w' := by
  have hu25 := Tryd.underlying25
  have hu28 := Tryd.underlying28
  have HB := Aside0.mk (Below.refl w.heap.size w)
  have H : ((stilelaw01_Raw_Value.f a0_0 a0_1 a0_2 a0_3).bind fun bt560 => ((stilelaw01_Raw_Value.f a1_0 a1_1 a1_2 a1_3).bind fun bt565 => ((value_Test.f k a2 bt560.1 bt560.2.1 bt560.2.2.1 bt560.2.2.2 bt565.1 bt565.2.1 bt565.2.2.1 bt565.2.2.2).bind fun bt571 => ((stileref01_Test.f k a2 bt560.1 bt560.2.1 bt560.2.2.1 bt560.2.2.2 bt565.1 bt565.2.1 bt565.2.2.1 bt565.2.2.2).bind fun bt573 => ((stilelaw01_alive.f k).bind fun t575 => (if t575 = true then ((value_Right.f a0_0 a0_1 a0_2 a0_3).bind fun t576 => ((stileref01_Right.f a0_0 a0_1 a0_2 a0_3).bind fun t577 => (if (t576 == t577) = true then ((value_Right.f bt560.1 bt560.2.1 bt560.2.2.1 bt560.2.2.2).bind fun t578 => (if t578 = true then ((value_Order.f bt560.1 bt560.2.1 bt560.2.2.1 bt560.2.2.2 bt565.1 bt565.2.1 bt565.2.2.1 bt565.2.2.2).bind fun t579 => ((stileref01_Order.f k bt560.1 bt560.2.1 bt560.2.2.1 bt560.2.2.2 bt565.1 bt565.2.1 bt565.2.2.1 bt565.2.2.2).bind fun t580 => (if t579 = t580 then (if bt571.1 = bt573.1 then (some (bt571.2.toList == bt573.2.toList)) else (none)) else (none)))) else (none))) else (none)))) else (none))))))) = some r := h
  clear h
  replace H := Option.bind_eq_some_iff.mp H
  obtain ⟨⟨t560, t561, t562, t563⟩, A40, H⟩ := H
  replace H : ((stilelaw01_Raw_Value.f a1_0 a1_1 a1_2 a1_3).bind fun bt565 => ((value_Test.f k a2 t560 t561 t562 t563 bt565.1 bt565.2.1 bt565.2.2.1 bt565.2.2.2).bind fun bt571 => ((stileref01_Test.f k a2 t560 t561 t562 t563 bt565.1 bt565.2.1 bt565.2.2.1 bt565.2.2.2).bind fun bt573 => ((stilelaw01_alive.f k).bind fun t575 => (if t575 = true then ((value_Right.f a0_0 a0_1 a0_2 a0_3).bind fun t576 => ((stileref01_Right.f a0_0 a0_1 a0_2 a0_3).bind fun t577 => (if (t576 == t577) = true then ((value_Right.f t560 t561 t562 t563).bind fun t578 => (if t578 = true then ((value_Order.f t560 t561 t562 t563 bt565.1 bt565.2.1 bt565.2.2.1 bt565.2.2.2).bind fun t579 => ((stileref01_Order.f k t560 t561 t562 t563 bt565.1 bt565.2.1 bt565.2.2.1 bt565.2.2.2).bind fun t580 => (if t579 = t580 then (if bt571.1 = bt573.1 then (some (bt571.2.toList == bt573.2.toList)) else (none)) else (none)))) else (none))) else (none)))) else (none)))))) = some r := H
  have A4 := Aside0.mk A40
  clear A40
  replace H := Option.bind_eq_some_iff.mp H
  obtain ⟨⟨t565, t566, t567, t568⟩, A50, H⟩ := H
  replace H : ((value_Test.f k a2 t560 t561 t562 t563 t565 t566 t567 t568).bind fun bt571 => ((stileref01_Test.f k a2 t560 t561 t562 t563 t565 t566 t567 t568).bind fun bt573 => ((stilelaw01_alive.f k).bind fun t575 => (if t575 = true then ((value_Right.f a0_0 a0_1 a0_2 a0_3).bind fun t576 => ((stileref01_Right.f a0_0 a0_1 a0_2 a0_3).bind fun t577 => (if (t576 == t577) = true then ((value_Right.f t560 t561 t562 t563).bind fun t578 => (if t578 = true then ((value_Order.f t560 t561 t562 t563 t565 t566 t567 t568).bind fun t579 => ((stileref01_Order.f k t560 t561 t562 t563 t565 t566 t567 t568).bind fun t580 => (if t579 = t580 then (if bt571.1 = bt573.1 then (some (bt571.2.toList == bt573.2.toList)) else (none)) else (none)))) else (none))) else (none)))) else (none))))) = some r := H
  have A5 := Aside0.mk A50
  clear A50
  replace H := Option.bind_eq_some_iff.mp H
  obtain ⟨⟨t571, t572⟩, A60, H⟩ := H
  replace H : ((stileref01_Test.f k a2 t560 t561 t562 t563 t565 t566 t567 t568).bind fun bt573 => ((stilelaw01_alive.f k).bind fun t575 => (if t575 = true then ((value_Right.f a0_0 a0_1 a0_2 a0_3).bind fun t576 => ((stileref01_Right.f a0_0 a0_1 a0_2 a0_3).bind fun t577 => (if (t576 == t577) = true then ((value_Right.f t560 t561 t562 t563).bind fun t578 => (if t578 = true then ((value_Order.f t560 t561 t562 t563 t565 t566 t567 t568).bind fun t579 => ((stileref01_Order.f k t560 t561 t562 t563 t565 t566 t567 t568).bind fun t580 => (if t579 = t580 then (if t571 = bt573.1 then (some (t572.toList == bt573.2.toList)) else (none)) else (none)))) else (none))) else (none)))) else (none)))) = some r := H
  have A6 := Aside0.mk A60
  clear A60
  replace H := Option.bind_eq_some_iff.mp H
  obtain ⟨⟨t573, t574⟩, A70, H⟩ := H
  replace H : ((stilelaw01_alive.f k).bind fun t575 => (if t575 = true then ((value_Right.f a0_0 a0_1 a0_2 a0_3).bind fun t576 => ((stileref01_Right.f a0_0 a0_1 a0_2 a0_3).bind fun t577 => (if (t576 == t577) = true then ((value_Right.f t560 t561 t562 t563).bind fun t578 => (if t578 = true then ((value_Order.f t560 t561 t562 t563 t565 t566 t567 t568).bind fun t579 => ((stileref01_Order.f k t560 t561 t562 t563 t565 t566 t567 t568).bind fun t580 => (if t579 = t580 then (if t571 = t573 then (some (t572.toList == t574.toList)) else (none)) else (none)))) else (none))) else (none)))) else (none))) = some r := H
  have A7 := Aside0.mk A70
  clear A70
  replace H := Option.bind_eq_some_iff.mp H
  obtain ⟨t575, A80, H⟩ := H
  replace H : (if t575 = true then ((value_Right.f a0_0 a0_1 a0_2 a0_3).bind fun t576 => ((stileref01_Right.f a0_0 a0_1 a0_2 a0_3).bind fun t577 => (if (t576 == t577) = true then ((value_Right.f t560 t561 t562 t563).bind fun t578 => (if t578 = true then ((value_Order.f t560 t561 t562 t563 t565 t566 t567 t568).bind fun t579 => ((stileref01_Order.f k t560 t561 t562 t563 t565 t566 t567 t568).bind fun t580 => (if t579 = t580 then (if t571 = t573 then (some (t572.toList == t574.toList)) else (none)) else (none)))) else (none))) else (none)))) else (none)) = some r := H
  have A8 := Aside0.mk A80
  clear A80
  by_cases c9 : t575 = true
  · subst c9
    have H1 : ((value_Right.f a0_0 a0_1 a0_2 a0_3).bind fun t576 => ((stileref01_Right.f a0_0 a0_1 a0_2 a0_3).bind fun t577 => (if (t576 == t577) = true then ((value_Right.f t560 t561 t562 t563).bind fun t578 => (if t578 = true then ((value_Order.f t560 t561 t562 t563 t565 t566 t567 t568).bind fun t579 => ((stileref01_Order.f k t560 t561 t562 t563 t565 t566 t567 t568).bind fun t580 => (if t579 = t580 then (if t571 = t573 then (some (t572.toList == t574.toList)) else (none)) else (none)))) else (none))) else (none)))) = some r := by rw [if_pos rfl] at H; exact H
    clear H
    have H := H1
    clear H1
    replace H := Option.bind_eq_some_iff.mp H
    obtain ⟨t576, A100, H⟩ := H
    replace H : ((stileref01_Right.f a0_0 a0_1 a0_2 a0_3).bind fun t577 => (if (t576 == t577) = true then ((value_Right.f t560 t561 t562 t563).bind fun t578 => (if t578 = true then ((value_Order.f t560 t561 t562 t563 t565 t566 t567 t568).bind fun t579 => ((stileref01_Order.f k t560 t561 t562 t563 t565 t566 t567 t568).bind fun t580 => (if t579 = t580 then (if t571 = t573 then (some (t572.toList == t574.toList)) else (none)) else (none)))) else (none))) else (none))) = some r := H
    have A10 := Aside0.mk A100
    clear A100
    replace H := Option.bind_eq_some_iff.mp H
    obtain ⟨t577, A110, H⟩ := H
    replace H : (if (t576 == t577) = true then ((value_Right.f t560 t561 t562 t563).bind fun t578 => (if t578 = true then ((value_Order.f t560 t561 t562 t563 t565 t566 t567 t568).bind fun t579 => ((stileref01_Order.f k t560 t561 t562 t563 t565 t566 t567 t568).bind fun t580 => (if t579 = t580 then (if t571 = t573 then (some (t572.toList == t574.toList)) else (none)) else (none)))) else (none))) else (none)) = some r := H
    have A11 := Aside0.mk A110
    clear A110
    by_cases c12 : (t576 == t577) = true
    · rw [if_pos c12] at H
      have c12b0 : (t576 == t577) = true := c12
      (try (have c12b1 : decide (t576 = t577) = true := by simpa using c12))
      (try (have c12b2 : (t576 == t577) = true := by simpa using c12))
      clear c12
      replace H := Option.bind_eq_some_iff.mp H
      obtain ⟨t578, A130, H⟩ := H
      replace H : (if t578 = true then ((value_Order.f t560 t561 t562 t563 t565 t566 t567 t568).bind fun t579 => ((stileref01_Order.f k t560 t561 t562 t563 t565 t566 t567 t568).bind fun t580 => (if t579 = t580 then (if t571 = t573 then (some (t572.toList == t574.toList)) else (none)) else (none)))) else (none)) = some r := H
      have A13 := Aside0.mk A130
      clear A130
      by_cases c14 : t578 = true
      · subst c14
        have H1 : ((value_Order.f t560 t561 t562 t563 t565 t566 t567 t568).bind fun t579 => ((stileref01_Order.f k t560 t561 t562 t563 t565 t566 t567 t568).bind fun t580 => (if t579 = t580 then (if t571 = t573 then (some (t572.toList == t574.toList)) else (none)) else (none)))) = some r := by rw [if_pos rfl] at H; exact H
        clear H
        have H := H1
        clear H1
        replace H := Option.bind_eq_some_iff.mp H
        obtain ⟨t579, A150, H⟩ := H
        replace H : ((stileref01_Order.f k t560 t561 t562 t563 t565 t566 t567 t568).bind fun t580 => (if t579 = t580 then (if t571 = t573 then (some (t572.toList == t574.toList)) else (none)) else (none))) = some r := H
        have A15 := Aside0.mk A150
        clear A150
        replace H := Option.bind_eq_some_iff.mp H
        obtain ⟨t580, A160, H⟩ := H
        replace H : (if t579 = t580 then (if t571 = t573 then (some (t572.toList == t574.toList)) else (none)) else (none)) = some r := H
        have A16 := Aside0.mk A160
        clear A160
        by_cases c17 : t579 = t580
        · rw [if_pos c17] at H
          have c17b0 : (t579 == t580) = true := beq_iff_eq.mpr c17
          have c17b1 : (t579 != t580) = false := bne_eq_false_iff_eq.mpr c17
          clear c17
          by_cases c18 : t571 = t573
          · rw [if_pos c18] at H
            have c18b0 : (t571 == t573) = true := beq_iff_eq.mpr c18
            have c18b1 : (t571 != t573) = false := bne_eq_false_iff_eq.mpr c18
            clear c18
            obtain rfl := Option.some.inj H
            go_enter Tryd.func11, Tryd.ntmps11
            try go_wp2_with (first | ((with_reducible refine gate_dst (N := 3) rfl ?_); refine box_event ?hg (N := 3) ?hd (cs := #[.int .i64 a0_0, .int .i64 a0_1, .string a0_2, .bool a0_3]) (t := 25) ?hr ?_; (case hd => rfl); (case hg => rfl); (case hr => first | (go_simp; done) | (go_simp; rfl)); intro gb558 hg w19 hbox hb; have n0_ := Aside0.mk (below_step (by repeat (first | (with_reducible first | exact HB.out | apply below_alloc | apply pw_below_drewN | apply below_drew1) | exact HB.out)) hb); have n1_ := Aside0.mk (hbox); have n2_ := Aside0.mk ((by rw [hg]; exact (below_size (by repeat (first | (with_reducible first | exact HB.out | apply below_alloc | apply pw_below_drewN | apply below_drew1) | exact HB.out))) : w.heap.size ≤ gb558)); have n3_ := Aside0.mk ((by rw [hg]; exact (below_size (by repeat (first | (with_reducible first | exact HB.out | apply below_alloc | apply pw_below_drewN | apply below_drew1) | exact HB.out))) : w.heap.size ≤ gb558)); clear HB; have HB := n0_; have BK558 := n1_; have GW558 := n2_; have GE558 := n3_; clear n0_ n1_ n2_ n3_; clear hb hbox hg) | ((with_reducible refine gate_dst (N := 4) rfl ?_); refine box_event ?hg (N := 4) ?hd (cs := #[.int .i64 a1_0, .int .i64 a1_1, .string a1_2, .bool a1_3]) (t := 25) ?hr ?_; (case hd => rfl); (case hg => rfl); (case hr => first | (go_simp; done) | (go_simp; rfl)); intro gb559 hg w20 hbox hb; have n0_ := Aside0.mk (blk_below (g := gb558) (o := .cells #[.int .i64 a0_0, .int .i64 a0_1, .string a0_2, .bool a0_3] 25 (0, 0)) (by (with_reducible repeat (first | refine blk_drewN ?_ _ | refine blk_drew ?_ | refine blk_alloc ?_ _)); exact BK558.out) hb); have n1_ := Aside0.mk (below_step (by repeat (first | (with_reducible first | exact HB.out | apply below_alloc | apply pw_below_drewN | apply below_drew1 | refine below_set ?_ GE558.out) | exact HB.out)) hb); have n2_ := Aside0.mk (hbox); have n3_ := Aside0.mk ((by rw [hg]; exact (below_size (by repeat (first | (with_reducible first | exact HB.out | apply below_alloc | apply pw_below_drewN | apply below_drew1 | refine below_set ?_ GE558.out) | exact HB.out))) : w.heap.size ≤ gb559)); have n4_ := Aside0.mk ((by rw [hg]; exact (below_size (by repeat (first | (with_reducible first | exact HB.out | apply below_alloc | apply pw_below_drewN | apply below_drew1 | refine below_set ?_ GE558.out) | exact HB.out))) : w.heap.size ≤ gb559)); have n5_ := Aside0.mk ((by rw [hg]; exact Nat.ne_of_lt (blk_lt (g := gb558) (o := .cells #[.int .i64 a0_0, .int .i64 a0_1, .string a0_2, .bool a0_3] 25 (0, 0)) (by (with_reducible repeat (first | refine blk_drewN ?_ _ | refine blk_drew ?_ | refine blk_alloc ?_ _)); exact BK558.out)) : gb558 ≠ gb559)); have n6_ := Aside0.mk ((by rw [hg]; exact Nat.ne_of_gt (blk_lt (g := gb558) (o := .cells #[.int .i64 a0_0, .int .i64 a0_1, .string a0_2, .bool a0_3] 25 (0, 0)) (by (with_reducible repeat (first | refine blk_drewN ?_ _ | refine blk_drew ?_ | refine blk_alloc ?_ _)); exact BK558.out)) : gb559 ≠ gb558)); clear BK558; clear HB; have BK558 := n0_; have HB := n1_; have BK559 := n2_; have GW559 := n3_; have GE559 := n4_; have NB558_559 := n5_; have NB559_558 := n6_; clear n0_ n1_ n2_ n3_ n4_ n5_ n6_; clear hb hbox hg; have hnb21 := NB558_559.out; have hnc21 := NB559_558.out; have hcz22_0 : w20.cell? ⟨gb558, 0, none⟩ = some (.int .i64 a0_0) := (blk_cell BK558.out 0).trans rfl; have hcz22_1 : w20.cell? ⟨gb558, 1, none⟩ = some (.int .i64 a0_1) := (blk_cell BK558.out 1).trans rfl; have hcz22_2 : w20.cell? ⟨gb558, 2, none⟩ = some (.string a0_2) := (blk_cell BK558.out 2).trans rfl; have hcz22_3 : w20.cell? ⟨gb558, 3, none⟩ = some (.bool a0_3) := (blk_cell BK558.out 3).trans rfl; have hfz22_0 := blk_frozen BK558.out 0; have hfz22_1 := blk_frozen BK558.out 1; have hfz22_2 := blk_frozen BK558.out 2; have hfz22_3 := blk_frozen BK558.out 3) | ((with_reducible refine gate_callee (f := 15) rfl ?_); refine goesL_ (some 15) rfl rfl Tryd.func15 (by kernel_rfl) rfl #[.agg #[.int .i64 a0_0, .int .i64 a0_1, .string a0_2, .bool a0_3]] rfl (by (try simp only [List.map_toArray, List.map_cons, List.map_nil]); first | done | rfl | (simp only [List.length_drop, List.length_take]; rfl)) ?_; (with_reducible refine (stilelaw01_Raw_Value.calls a0_0 a0_1 a0_2 a0_3 t560 t561 t562 t563 _ A4.out).mono ?_); rintro e w23 ⟨rfl, hb⟩; refine ⟨_, rfl, ?_⟩; have n0_ := Aside0.mk (blk_below (g := gb558) (o := .cells #[.int .i64 a0_0, .int .i64 a0_1, .string a0_2, .bool a0_3] 25 (0, 0)) (by (with_reducible repeat (first | refine blk_drewN ?_ _ | refine blk_drew ?_ | refine blk_alloc ?_ _)); exact BK558.out) hb); have n1_ := Aside0.mk (blk_below (g := gb559) (o := .cells #[.int .i64 a1_0, .int .i64 a1_1, .string a1_2, .bool a1_3] 25 (0, 0)) (by (with_reducible repeat (first | refine blk_drewN ?_ _ | refine blk_drew ?_ | refine blk_alloc ?_ _)); exact BK559.out) hb); have n2_ := Aside0.mk (below_step (by repeat (first | (with_reducible first | exact HB.out | apply below_alloc | apply pw_below_drewN | apply below_drew1 | refine below_set ?_ GE558.out | refine below_set ?_ GE559.out) | exact HB.out)) hb); clear BK558; clear BK559; clear HB; have BK558 := n0_; have BK559 := n1_; have HB := n2_; clear n0_ n1_ n2_; (try clear hb); (try clear hb2); (try clear hk); (try clear hi)) | ((with_reducible refine gate_dst (N := 7) rfl ?_); refine box_event ?hg (N := 7) ?hd (cs := #[.int .i64 0, .int .i64 0, .string (⟨#[]⟩ : ByteArray), .bool false]) (t := 28) ?hr ?_; (case hd => rfl); (case hg => rfl); (case hr => first | (go_simp; done) | (go_simp; rfl)); intro gb564 hg w24 hbox hb; have n0_ := Aside0.mk (blk_below (g := gb558) (o := .cells #[.int .i64 a0_0, .int .i64 a0_1, .string a0_2, .bool a0_3] 25 (0, 0)) (by (with_reducible repeat (first | refine blk_drewN ?_ _ | refine blk_drew ?_ | refine blk_alloc ?_ _)); exact BK558.out) hb); have n1_ := Aside0.mk (blk_below (g := gb559) (o := .cells #[.int .i64 a1_0, .int .i64 a1_1, .string a1_2, .bool a1_3] 25 (0, 0)) (by (with_reducible repeat (first | refine blk_drewN ?_ _ | refine blk_drew ?_ | refine blk_alloc ?_ _)); exact BK559.out) hb); have n2_ := Aside0.mk (below_step (by repeat (first | (with_reducible first | exact HB.out | apply below_alloc | apply pw_below_drewN | apply below_drew1 | refine below_set ?_ GE558.out | refine below_set ?_ GE559.out) | exact HB.out)) hb); have n3_ := Aside0.mk (hbox); have n4_ := Aside0.mk ((by rw [hg]; exact (below_size (by repeat (first | (with_reducible first | exact HB.out | apply below_alloc | apply pw_below_drewN | apply below_drew1 | refine below_set ?_ GE558.out | refine below_set ?_ GE559.out) | exact HB.out))) : w.heap.size ≤ gb564)); have n5_ := Aside0.mk ((by rw [hg]; exact (below_size (by repeat (first | (with_reducible first | exact HB.out | apply below_alloc | apply pw_below_drewN | apply below_drew1 | refine below_set ?_ GE558.out | refine below_set ?_ GE559.out) | exact HB.out))) : w.heap.size ≤ gb564)); have n6_ := Aside0.mk ((by rw [hg]; exact Nat.ne_of_lt (blk_lt (g := gb558) (o := .cells #[.int .i64 a0_0, .int .i64 a0_1, .string a0_2, .bool a0_3] 25 (0, 0)) (by (with_reducible repeat (first | refine blk_drewN ?_ _ | refine blk_drew ?_ | refine blk_alloc ?_ _)); exact BK558.out)) : gb558 ≠ gb564)); have n7_ := Aside0.mk ((by rw [hg]; exact Nat.ne_of_gt (blk_lt (g := gb558) (o := .cells #[.int .i64 a0_0, .int .i64 a0_1, .string a0_2, .bool a0_3] 25 (0, 0)) (by (with_reducible repeat (first | refine blk_drewN ?_ _ | refine blk_drew ?_ | refine blk_alloc ?_ _)); exact BK558.out)) : gb564 ≠ gb558)); have n8_ := Aside0.mk ((by rw [hg]; exact Nat.ne_of_lt (blk_lt (g := gb559) (o := .cells #[.int .i64 a1_0, .int .i64 a1_1, .string a1_2, .bool a1_3] 25 (0, 0)) (by (with_reducible repeat (first | refine blk_drewN ?_ _ | refine blk_drew ?_ | refine blk_alloc ?_ _)); exact BK559.out)) : gb559 ≠ gb564)); have n9_ := Aside0.mk ((by rw [hg]; exact Nat.ne_of_gt (blk_lt (g := gb559) (o := .cells #[.int .i64 a1_0, .int .i64 a1_1, .string a1_2, .bool a1_3] 25 (0, 0)) (by (with_reducible repeat (first | refine blk_drewN ?_ _ | refine blk_drew ?_ | refine blk_alloc ?_ _)); exact BK559.out)) : gb564 ≠ gb559)); clear BK558; clear BK559; clear HB; have BK558 := n0_; have BK559 := n1_; have HB := n2_; have BK564 := n3_; have GW564 := n4_; have GE564 := n5_; have NB558_564 := n6_; have NB564_558 := n7_; have NB559_564 := n8_; have NB564_559 := n9_; clear n0_ n1_ n2_ n3_ n4_ n5_ n6_ n7_ n8_ n9_; clear hb hbox hg; have hnb25 := NB564_558.out; have hnc25 := NB558_564.out; have hnb26 := NB564_559.out; have hnc26 := NB559_564.out; have hcz27_0 : w24.cell? ⟨gb564, 0, none⟩ = some (.int .i64 0) := (blk_cell BK564.out 0).trans rfl; have hcz27_1 : w24.cell? ⟨gb564, 1, none⟩ = some (.int .i64 0) := (blk_cell BK564.out 1).trans rfl; have hcz27_2 : w24.cell? ⟨gb564, 2, none⟩ = some (.string (⟨#[]⟩ : ByteArray)) := (blk_cell BK564.out 2).trans rfl; have hcz27_3 : w24.cell? ⟨gb564, 3, none⟩ = some (.bool false) := (blk_cell BK564.out 3).trans rfl; have hfz27_0 := blk_frozen BK564.out 0; have hfz27_1 := blk_frozen BK564.out 1; have hfz27_2 := blk_frozen BK564.out 2; have hfz27_3 := blk_frozen BK564.out 3; have hcz28_0 : w24.cell? ⟨gb559, 0, none⟩ = some (.int .i64 a1_0) := (blk_cell BK559.out 0).trans rfl; have hcz28_1 : w24.cell? ⟨gb559, 1, none⟩ = some (.int .i64 a1_1) := (blk_cell BK559.out 1).trans rfl; have hcz28_2 : w24.cell? ⟨gb559, 2, none⟩ = some (.string a1_2) := (blk_cell BK559.out 2).trans rfl; have hcz28_3 : w24.cell? ⟨gb559, 3, none⟩ = some (.bool a1_3) := (blk_cell BK559.out 3).trans rfl; have hfz28_0 := blk_frozen BK559.out 0; have hfz28_1 := blk_frozen BK559.out 1; have hfz28_2 := blk_frozen BK559.out 2; have hfz28_3 := blk_frozen BK559.out 3) | ((with_reducible refine gate_callee (f := 15) rfl ?_); refine goesL_ (some 17) rfl rfl Tryd.func15 (by kernel_rfl) rfl #[.agg #[.int .i64 a1_0, .int .i64 a1_1, .string a1_2, .bool a1_3]] rfl (by (try simp only [List.map_toArray, List.map_cons, List.map_nil]); first | done | rfl | (simp only [List.length_drop, List.length_take]; rfl)) ?_; (with_reducible refine (stilelaw01_Raw_Value.calls a1_0 a1_1 a1_2 a1_3 t565 t566 t567 t568 _ A5.out).mono ?_); rintro e w29 ⟨rfl, hb⟩; refine ⟨_, rfl, ?_⟩; have n0_ := Aside0.mk (blk_below (g := gb558) (o := .cells #[.int .i64 a0_0, .int .i64 a0_1, .string a0_2, .bool a0_3] 25 (0, 0)) (by (with_reducible repeat (first | refine blk_drewN ?_ _ | refine blk_drew ?_ | refine blk_alloc ?_ _)); refine blk_far ?_ NB558_564.out _; (with_reducible repeat (first | refine blk_drewN ?_ _ | refine blk_drew ?_ | refine blk_alloc ?_ _)); refine blk_far ?_ NB558_564.out _; (with_reducible repeat (first | refine blk_drewN ?_ _ | refine blk_drew ?_ | refine blk_alloc ?_ _)); refine blk_far ?_ NB558_564.out _; (with_reducible repeat (first | refine blk_drewN ?_ _ | refine blk_drew ?_ | refine blk_alloc ?_ _)); refine blk_far ?_ NB558_564.out _; (with_reducible repeat (first | refine blk_drewN ?_ _ | refine blk_drew ?_ | refine blk_alloc ?_ _)); exact BK558.out) hb); have n1_ := Aside0.mk (blk_below (g := gb559) (o := .cells #[.int .i64 a1_0, .int .i64 a1_1, .string a1_2, .bool a1_3] 25 (0, 0)) (by (with_reducible repeat (first | refine blk_drewN ?_ _ | refine blk_drew ?_ | refine blk_alloc ?_ _)); refine blk_far ?_ NB559_564.out _; (with_reducible repeat (first | refine blk_drewN ?_ _ | refine blk_drew ?_ | refine blk_alloc ?_ _)); refine blk_far ?_ NB559_564.out _; (with_reducible repeat (first | refine blk_drewN ?_ _ | refine blk_drew ?_ | refine blk_alloc ?_ _)); refine blk_far ?_ NB559_564.out _; (with_reducible repeat (first | refine blk_drewN ?_ _ | refine blk_drew ?_ | refine blk_alloc ?_ _)); refine blk_far ?_ NB559_564.out _; (with_reducible repeat (first | refine blk_drewN ?_ _ | refine blk_drew ?_ | refine blk_alloc ?_ _)); exact BK559.out) hb); have n2_ := Aside0.mk (blk_below (g := gb564) (o := .cells #[.int .i64 t560, .int .i64 t561, .string t562, .bool t563] 28 (0, 0)) (by (with_reducible repeat (first | refine blk_drewN ?_ _ | refine blk_drew ?_ | refine blk_alloc ?_ _)); refine blk_put (cs := #[.int .i64 t560, .int .i64 t561, .string t562, .bool false]) ?_ 3 _ rfl; (with_reducible repeat (first | refine blk_drewN ?_ _ | refine blk_drew ?_ | refine blk_alloc ?_ _)); refine blk_put (cs := #[.int .i64 t560, .int .i64 t561, .string (⟨#[]⟩ : ByteArray), .bool false]) ?_ 2 _ rfl; (with_reducible repeat (first | refine blk_drewN ?_ _ | refine blk_drew ?_ | refine blk_alloc ?_ _)); refine blk_put (cs := #[.int .i64 t560, .int .i64 0, .string (⟨#[]⟩ : ByteArray), .bool false]) ?_ 1 _ rfl; (with_reducible repeat (first | refine blk_drewN ?_ _ | refine blk_drew ?_ | refine blk_alloc ?_ _)); refine blk_put (cs := #[.int .i64 0, .int .i64 0, .string (⟨#[]⟩ : ByteArray), .bool false]) ?_ 0 _ rfl; (with_reducible repeat (first | refine blk_drewN ?_ _ | refine blk_drew ?_ | refine blk_alloc ?_ _)); exact BK564.out) hb); have n3_ := Aside0.mk (below_step (by repeat (first | (with_reducible first | exact HB.out | apply below_alloc | apply pw_below_drewN | apply below_drew1 | refine below_set ?_ GE558.out | refine below_set ?_ GE559.out | refine below_set ?_ GE564.out) | exact HB.out)) hb); clear BK558; clear BK559; clear BK564; clear HB; have BK558 := n0_; have BK559 := n1_; have BK564 := n2_; have HB := n3_; clear n0_ n1_ n2_ n3_; (try clear hb); (try clear hb2); (try clear hk); (try clear hi)) | ((with_reducible refine gate_dst (N := 8) rfl ?_); refine box_event ?hg (N := 8) ?hd (cs := #[.int .i64 0, .int .i64 0, .string (⟨#[]⟩ : ByteArray), .bool false]) (t := 28) ?hr ?_; (case hd => rfl); (case hg => rfl); (case hr => first | (go_simp; done) | (go_simp; rfl)); intro gb569 hg w30 hbox hb; have n0_ := Aside0.mk (blk_below (g := gb558) (o := .cells #[.int .i64 a0_0, .int .i64 a0_1, .string a0_2, .bool a0_3] 25 (0, 0)) (by (with_reducible repeat (first | refine blk_drewN ?_ _ | refine blk_drew ?_ | refine blk_alloc ?_ _)); exact BK558.out) hb); have n1_ := Aside0.mk (blk_below (g := gb559) (o := .cells #[.int .i64 a1_0, .int .i64 a1_1, .string a1_2, .bool a1_3] 25 (0, 0)) (by (with_reducible repeat (first | refine blk_drewN ?_ _ | refine blk_drew ?_ | refine blk_alloc ?_ _)); exact BK559.out) hb); have n2_ := Aside0.mk (blk_below (g := gb564) (o := .cells #[.int .i64 t560, .int .i64 t561, .string t562, .bool t563] 28 (0, 0)) (by (with_reducible repeat (first | refine blk_drewN ?_ _ | refine blk_drew ?_ | refine blk_alloc ?_ _)); exact BK564.out) hb); have n3_ := Aside0.mk (below_step (by repeat (first | (with_reducible first | exact HB.out | apply below_alloc | apply pw_below_drewN | apply below_drew1 | refine below_set ?_ GE558.out | refine below_set ?_ GE559.out | refine below_set ?_ GE564.out) | exact HB.out)) hb); have n4_ := Aside0.mk (hbox); have n5_ := Aside0.mk ((by rw [hg]; exact (below_size (by repeat (first | (with_reducible first | exact HB.out | apply below_alloc | apply pw_below_drewN | apply below_drew1 | refine below_set ?_ GE558.out | refine below_set ?_ GE559.out | refine below_set ?_ GE564.out) | exact HB.out))) : w.heap.size ≤ gb569)); have n6_ := Aside0.mk ((by rw [hg]; exact (below_size (by repeat (first | (with_reducible first | exact HB.out | apply below_alloc | apply pw_below_drewN | apply below_drew1 | refine below_set ?_ GE558.out | refine below_set ?_ GE559.out | refine below_set ?_ GE564.out) | exact HB.out))) : w.heap.size ≤ gb569)); have n7_ := Aside0.mk ((by rw [hg]; exact Nat.ne_of_lt (blk_lt (g := gb558) (o := .cells #[.int .i64 a0_0, .int .i64 a0_1, .string a0_2, .bool a0_3] 25 (0, 0)) (by (with_reducible repeat (first | refine blk_drewN ?_ _ | refine blk_drew ?_ | refine blk_alloc ?_ _)); exact BK558.out)) : gb558 ≠ gb569)); have n8_ := Aside0.mk ((by rw [hg]; exact Nat.ne_of_gt (blk_lt (g := gb558) (o := .cells #[.int .i64 a0_0, .int .i64 a0_1, .string a0_2, .bool a0_3] 25 (0, 0)) (by (with_reducible repeat (first | refine blk_drewN ?_ _ | refine blk_drew ?_ | refine blk_alloc ?_ _)); exact BK558.out)) : gb569 ≠ gb558)); have n9_ := Aside0.mk ((by rw [hg]; exact Nat.ne_of_lt (blk_lt (g := gb559) (o := .cells #[.int .i64 a1_0, .int .i64 a1_1, .string a1_2, .bool a1_3] 25 (0, 0)) (by (with_reducible repeat (first | refine blk_drewN ?_ _ | refine blk_drew ?_ | refine blk_alloc ?_ _)); exact BK559.out)) : gb559 ≠ gb569)); have n10_ := Aside0.mk ((by rw [hg]; exact Nat.ne_of_gt (blk_lt (g := gb559) (o := .cells #[.int .i64 a1_0, .int .i64 a1_1, .string a1_2, .bool a1_3] 25 (0, 0)) (by (with_reducible repeat (first | refine blk_drewN ?_ _ | refine blk_drew ?_ | refine blk_alloc ?_ _)); exact BK559.out)) : gb569 ≠ gb559)); have n11_ := Aside0.mk ((by rw [hg]; exact Nat.ne_of_lt (blk_lt (g := gb564) (o := .cells #[.int .i64 t560, .int .i64 t561, .string t562, .bool t563] 28 (0, 0)) (by (with_reducible repeat (first | refine blk_drewN ?_ _ | refine blk_drew ?_ | refine blk_alloc ?_ _)); exact BK564.out)) : gb564 ≠ gb569)); have n12_ := Aside0.mk ((by rw [hg]; exact Nat.ne_of_gt (blk_lt (g := gb564) (o := .cells #[.int .i64 t560, .int .i64 t561, .string t562, .bool t563] 28 (0, 0)) (by (with_reducible repeat (first | refine blk_drewN ?_ _ | refine blk_drew ?_ | refine blk_alloc ?_ _)); exact BK564.out)) : gb569 ≠ gb564)); clear BK558; clear BK559; clear BK564; clear HB; have BK558 := n0_; have BK559 := n1_; have BK564 := n2_; have HB := n3_; have BK569 := n4_; have GW569 := n5_; have GE569 := n6_; have NB558_569 := n7_; have NB569_558 := n8_; have NB559_569 := n9_; have NB569_559 := n10_; have NB564_569 := n11_; have NB569_564 := n12_; clear n0_ n1_ n2_ n3_ n4_ n5_ n6_ n7_ n8_ n9_ n10_ n11_ n12_; clear hb hbox hg; have hnb31 := NB569_558.out; have hnc31 := NB558_569.out; have hnb32 := NB569_559.out; have hnc32 := NB559_569.out; have hnb33 := NB569_564.out; have hnc33 := NB564_569.out; have hcz34_0 : w30.cell? ⟨gb569, 0, none⟩ = some (.int .i64 0) := (blk_cell BK569.out 0).trans rfl; have hcz34_1 : w30.cell? ⟨gb569, 1, none⟩ = some (.int .i64 0) := (blk_cell BK569.out 1).trans rfl; have hcz34_2 : w30.cell? ⟨gb569, 2, none⟩ = some (.string (⟨#[]⟩ : ByteArray)) := (blk_cell BK569.out 2).trans rfl; have hcz34_3 : w30.cell? ⟨gb569, 3, none⟩ = some (.bool false) := (blk_cell BK569.out 3).trans rfl; have hfz34_0 := blk_frozen BK569.out 0; have hfz34_1 := blk_frozen BK569.out 1; have hfz34_2 := blk_frozen BK569.out 2; have hfz34_3 := blk_frozen BK569.out 3; have hcz35_0 : w30.cell? ⟨gb558, 0, none⟩ = some (.int .i64 a0_0) := (blk_cell BK558.out 0).trans rfl; have hcz35_1 : w30.cell? ⟨gb558, 1, none⟩ = some (.int .i64 a0_1) := (blk_cell BK558.out 1).trans rfl; have hcz35_2 : w30.cell? ⟨gb558, 2, none⟩ = some (.string a0_2) := (blk_cell BK558.out 2).trans rfl; have hcz35_3 : w30.cell? ⟨gb558, 3, none⟩ = some (.bool a0_3) := (blk_cell BK558.out 3).trans rfl; have hfz35_0 := blk_frozen BK558.out 0; have hfz35_1 := blk_frozen BK558.out 1; have hfz35_2 := blk_frozen BK558.out 2; have hfz35_3 := blk_frozen BK558.out 3) | ((with_reducible refine gate_dst (N := 9) rfl ?_); refine box_event ?hg (N := 9) ?hd (cs := #[.int .i64 0, .int .i64 0, .string (⟨#[]⟩ : ByteArray), .bool false]) (t := 28) ?hr ?_; (case hd => rfl); (case hg => rfl); (case hr => first | (go_simp; done) | (go_simp; rfl)); intro gb570 hg w36 hbox hb; have n0_ := Aside0.mk (blk_below (g := gb558) (o := .cells #[.int .i64 a0_0, .int .i64 a0_1, .string a0_2, .bool a0_3] 25 (0, 0)) (by (with_reducible repeat (first | refine blk_drewN ?_ _ | refine blk_drew ?_ | refine blk_alloc ?_ _)); refine blk_far ?_ NB558_569.out _; (with_reducible repeat (first | refine blk_drewN ?_ _ | refine blk_drew ?_ | refine blk_alloc ?_ _)); refine blk_far ?_ NB558_569.out _; (with_reducible repeat (first | refine blk_drewN ?_ _ | refine blk_drew ?_ | refine blk_alloc ?_ _)); refine blk_far ?_ NB558_569.out _; (with_reducible repeat (first | refine blk_drewN ?_ _ | refine blk_drew ?_ | refine blk_alloc ?_ _)); refine blk_far ?_ NB558_569.out _; (with_reducible repeat (first | refine blk_drewN ?_ _ | refine blk_drew ?_ | refine blk_alloc ?_ _)); exact BK558.out) hb); have n1_ := Aside0.mk (blk_below (g := gb559) (o := .cells #[.int .i64 a1_0, .int .i64 a1_1, .string a1_2, .bool a1_3] 25 (0, 0)) (by (with_reducible repeat (first | refine blk_drewN ?_ _ | refine blk_drew ?_ | refine blk_alloc ?_ _)); refine blk_far ?_ NB559_569.out _; (with_reducible repeat (first | refine blk_drewN ?_ _ | refine blk_drew ?_ | refine blk_alloc ?_ _)); refine blk_far ?_ NB559_569.out _; (with_reducible repeat (first | refine blk_drewN ?_ _ | refine blk_drew ?_ | refine blk_alloc ?_ _)); refine blk_far ?_ NB559_569.out _; (with_reducible repeat (first | refine blk_drewN ?_ _ | refine blk_drew ?_ | refine blk_alloc ?_ _)); refine blk_far ?_ NB559_569.out _; (with_reducible repeat (first | refine blk_drewN ?_ _ | refine blk_drew ?_ | refine blk_alloc ?_ _)); exact BK559.out) hb); have n2_ := Aside0.mk (blk_below (g := gb564) (o := .cells #[.int .i64 t560, .int .i64 t561, .string t562, .bool t563] 28 (0, 0)) (by (with_reducible repeat (first | refine blk_drewN ?_ _ | refine blk_drew ?_ | refine blk_alloc ?_ _)); refine blk_far ?_ NB564_569.out _; (with_reducible repeat (first | refine blk_drewN ?_ _ | refine blk_drew ?_ | refine blk_alloc ?_ _)); refine blk_far ?_ NB564_569.out _; (with_reducible repeat (first | refine blk_drewN ?_ _ | refine blk_drew ?_ | refine blk_alloc ?_ _)); refine blk_far ?_ NB564_569.out _; (with_reducible repeat (first | refine blk_drewN ?_ _ | refine blk_drew ?_ | refine blk_alloc ?_ _)); refine blk_far ?_ NB564_569.out _; (with_reducible repeat (first | refine blk_drewN ?_ _ | refine blk_drew ?_ | refine blk_alloc ?_ _)); exact BK564.out) hb); have n3_ := Aside0.mk (blk_below (g := gb569) (o := .cells #[.int .i64 t565, .int .i64 t566, .string t567, .bool t568] 28 (0, 0)) (by (with_reducible repeat (first | refine blk_drewN ?_ _ | refine blk_drew ?_ | refine blk_alloc ?_ _)); refine blk_put (cs := #[.int .i64 t565, .int .i64 t566, .string t567, .bool false]) ?_ 3 _ rfl; (with_reducible repeat (first | refine blk_drewN ?_ _ | refine blk_drew ?_ | refine blk_alloc ?_ _)); refine blk_put (cs := #[.int .i64 t565, .int .i64 t566, .string (⟨#[]⟩ : ByteArray), .bool false]) ?_ 2 _ rfl; (with_reducible repeat (first | refine blk_drewN ?_ _ | refine blk_drew ?_ | refine blk_alloc ?_ _)); refine blk_put (cs := #[.int .i64 t565, .int .i64 0, .string (⟨#[]⟩ : ByteArray), .bool false]) ?_ 1 _ rfl; (with_reducible repeat (first | refine blk_drewN ?_ _ | refine blk_drew ?_ | refine blk_alloc ?_ _)); refine blk_put (cs := #[.int .i64 0, .int .i64 0, .string (⟨#[]⟩ : ByteArray), .bool false]) ?_ 0 _ rfl; (with_reducible repeat (first | refine blk_drewN ?_ _ | refine blk_drew ?_ | refine blk_alloc ?_ _)); exact BK569.out) hb); have n4_ := Aside0.mk (below_step (by repeat (first | (with_reducible first | exact HB.out | apply below_alloc | apply pw_below_drewN | apply below_drew1 | refine below_set ?_ GE558.out | refine below_set ?_ GE559.out | refine below_set ?_ GE564.out | refine below_set ?_ GE569.out) | exact HB.out)) hb); have n5_ := Aside0.mk (hbox); have n6_ := Aside0.mk ((by rw [hg]; exact (below_size (by repeat (first | (with_reducible first | exact HB.out | apply below_alloc | apply pw_below_drewN | apply below_drew1 | refine below_set ?_ GE558.out | refine below_set ?_ GE559.out | refine below_set ?_ GE564.out | refine below_set ?_ GE569.out) | exact HB.out))) : w.heap.size ≤ gb570)); have n7_ := Aside0.mk ((by rw [hg]; exact (below_size (by repeat (first | (with_reducible first | exact HB.out | apply below_alloc | apply pw_below_drewN | apply below_drew1 | refine below_set ?_ GE558.out | refine below_set ?_ GE559.out | refine below_set ?_ GE564.out | refine below_set ?_ GE569.out) | exact HB.out))) : w.heap.size ≤ gb570)); have n8_ := Aside0.mk ((by rw [hg]; exact Nat.ne_of_lt (blk_lt (g := gb558) (o := .cells #[.int .i64 a0_0, .int .i64 a0_1, .string a0_2, .bool a0_3] 25 (0, 0)) (by (with_reducible repeat (first | refine blk_drewN ?_ _ | refine blk_drew ?_ | refine blk_alloc ?_ _)); refine blk_far ?_ NB558_569.out _; (with_reducible repeat (first | refine blk_drewN ?_ _ | refine blk_drew ?_ | refine blk_alloc ?_ _)); refine blk_far ?_ NB558_569.out _; (with_reducible repeat (first | refine blk_drewN ?_ _ | refine blk_drew ?_ | refine blk_alloc ?_ _)); refine blk_far ?_ NB558_569.out _; (with_reducible repeat (first | refine blk_drewN ?_ _ | refine blk_drew ?_ | refine blk_alloc ?_ _)); refine blk_far ?_ NB558_569.out _; (with_reducible repeat (first | refine blk_drewN ?_ _ | refine blk_drew ?_ | refine blk_alloc ?_ _)); exact BK558.out)) : gb558 ≠ gb570)); have n9_ := Aside0.mk ((by rw [hg]; exact Nat.ne_of_gt (blk_lt (g := gb558) (o := .cells #[.int .i64 a0_0, .int .i64 a0_1, .string a0_2, .bool a0_3] 25 (0, 0)) (by (with_reducible repeat (first | refine blk_drewN ?_ _ | refine blk_drew ?_ | refine blk_alloc ?_ _)); refine blk_far ?_ NB558_569.out _; (with_reducible repeat (first | refine blk_drewN ?_ _ | refine blk_drew ?_ | refine blk_alloc ?_ _)); refine blk_far ?_ NB558_569.out _; (with_reducible repeat (first | refine blk_drewN ?_ _ | refine blk_drew ?_ | refine blk_alloc ?_ _)); refine blk_far ?_ NB558_569.out _; (with_reducible repeat (first | refine blk_drewN ?_ _ | refine blk_drew ?_ | refine blk_alloc ?_ _)); refine blk_far ?_ NB558_569.out _; (with_reducible repeat (first | refine blk_drewN ?_ _ | refine blk_drew ?_ | refine blk_alloc ?_ _)); exact BK558.out)) : gb570 ≠ gb558)); have n10_ := Aside0.mk ((by rw [hg]; exact Nat.ne_of_lt (blk_lt (g := gb559) (o := .cells #[.int .i64 a1_0, .int .i64 a1_1, .string a1_2, .bool a1_3] 25 (0, 0)) (by (with_reducible repeat (first | refine blk_drewN ?_ _ | refine blk_drew ?_ | refine blk_alloc ?_ _)); refine blk_far ?_ NB559_569.out _; (with_reducible repeat (first | refine blk_drewN ?_ _ | refine blk_drew ?_ | refine blk_alloc ?_ _)); refine blk_far ?_ NB559_569.out _; (with_reducible repeat (first | refine blk_drewN ?_ _ | refine blk_drew ?_ | refine blk_alloc ?_ _)); refine blk_far ?_ NB559_569.out _; (with_reducible repeat (first | refine blk_drewN ?_ _ | refine blk_drew ?_ | refine blk_alloc ?_ _)); refine blk_far ?_ NB559_569.out _; (with_reducible repeat (first | refine blk_drewN ?_ _ | refine blk_drew ?_ | refine blk_alloc ?_ _)); exact BK559.out)) : gb559 ≠ gb570)); have n11_ := Aside0.mk ((by rw [hg]; exact Nat.ne_of_gt (blk_lt (g := gb559) (o := .cells #[.int .i64 a1_0, .int .i64 a1_1, .string a1_2, .bool a1_3] 25 (0, 0)) (by (with_reducible repeat (first | refine blk_drewN ?_ _ | refine blk_drew ?_ | refine blk_alloc ?_ _)); refine blk_far ?_ NB559_569.out _; (with_reducible repeat (first | refine blk_drewN ?_ _ | refine blk_drew ?_ | refine blk_alloc ?_ _)); refine blk_far ?_ NB559_569.out _; (with_reducible repeat (first | refine blk_drewN ?_ _ | refine blk_drew ?_ | refine blk_alloc ?_ _)); refine blk_far ?_ NB559_569.out _; (with_reducible repeat (first | refine blk_drewN ?_ _ | refine blk_drew ?_ | refine blk_alloc ?_ _)); refine blk_far ?_ NB559_569.out _; (with_reducible repeat (first | refine blk_drewN ?_ _ | refine blk_drew ?_ | refine blk_alloc ?_ _)); exact BK559.out)) : gb570 ≠ gb559)); have n12_ := Aside0.mk ((by rw [hg]; exact Nat.ne_of_lt (blk_lt (g := gb564) (o := .cells #[.int .i64 t560, .int .i64 t561, .string t562, .bool t563] 28 (0, 0)) (by (with_reducible repeat (first | refine blk_drewN ?_ _ | refine blk_drew ?_ | refine blk_alloc ?_ _)); refine blk_far ?_ NB564_569.out _; (with_reducible repeat (first | refine blk_drewN ?_ _ | refine blk_drew ?_ | refine blk_alloc ?_ _)); refine blk_far ?_ NB564_569.out _; (with_reducible repeat (first | refine blk_drewN ?_ _ | refine blk_drew ?_ | refine blk_alloc ?_ _)); refine blk_far ?_ NB564_569.out _; (with_reducible repeat (first | refine blk_drewN ?_ _ | refine blk_drew ?_ | refine blk_alloc ?_ _)); refine blk_far ?_ NB564_569.out _; (with_reducible repeat (first | refine blk_drewN ?_ _ | refine blk_drew ?_ | refine blk_alloc ?_ _)); exact BK564.out)) : gb564 ≠ gb570)); have n13_ := Aside0.mk ((by rw [hg]; exact Nat.ne_of_gt (blk_lt (g := gb564) (o := .cells #[.int .i64 t560, .int .i64 t561, .string t562, .bool t563] 28 (0, 0)) (by (with_reducible repeat (first | refine blk_drewN ?_ _ | refine blk_drew ?_ | refine blk_alloc ?_ _)); refine blk_far ?_ NB564_569.out _; (with_reducible repeat (first | refine blk_drewN ?_ _ | refine blk_drew ?_ | refine blk_alloc ?_ _)); refine blk_far ?_ NB564_569.out _; (with_reducible repeat (first | refine blk_drewN ?_ _ | refine blk_drew ?_ | refine blk_alloc ?_ _)); refine blk_far ?_ NB564_569.out _; (with_reducible repeat (first | refine blk_drewN ?_ _ | refine blk_drew ?_ | refine blk_alloc ?_ _)); refine blk_far ?_ NB564_569.out _; (with_reducible repeat (first | refine blk_drewN ?_ _ | refine blk_drew ?_ | refine blk_alloc ?_ _)); exact BK564.out)) : gb570 ≠ gb564)); have n14_ := Aside0.mk ((by rw [hg]; exact Nat.ne_of_lt (blk_lt (g := gb569) (o := .cells #[.int .i64 t565, .int .i64 t566, .string t567, .bool t568] 28 (0, 0)) (by (with_reducible repeat (first | refine blk_drewN ?_ _ | refine blk_drew ?_ | refine blk_alloc ?_ _)); refine blk_put (cs := #[.int .i64 t565, .int .i64 t566, .string t567, .bool false]) ?_ 3 _ rfl; (with_reducible repeat (first | refine blk_drewN ?_ _ | refine blk_drew ?_ | refine blk_alloc ?_ _)); refine blk_put (cs := #[.int .i64 t565, .int .i64 t566, .string (⟨#[]⟩ : ByteArray), .bool false]) ?_ 2 _ rfl; (with_reducible repeat (first | refine blk_drewN ?_ _ | refine blk_drew ?_ | refine blk_alloc ?_ _)); refine blk_put (cs := #[.int .i64 t565, .int .i64 0, .string (⟨#[]⟩ : ByteArray), .bool false]) ?_ 1 _ rfl; (with_reducible repeat (first | refine blk_drewN ?_ _ | refine blk_drew ?_ | refine blk_alloc ?_ _)); refine blk_put (cs := #[.int .i64 0, .int .i64 0, .string (⟨#[]⟩ : ByteArray), .bool false]) ?_ 0 _ rfl; (with_reducible repeat (first | refine blk_drewN ?_ _ | refine blk_drew ?_ | refine blk_alloc ?_ _)); exact BK569.out)) : gb569 ≠ gb570)); have n15_ := Aside0.mk ((by rw [hg]; exact Nat.ne_of_gt (blk_lt (g := gb569) (o := .cells #[.int .i64 t565, .int .i64 t566, .string t567, .bool t568] 28 (0, 0)) (by (with_reducible repeat (first | refine blk_drewN ?_ _ | refine blk_drew ?_ | refine blk_alloc ?_ _)); refine blk_put (cs := #[.int .i64 t565, .int .i64 t566, .string t567, .bool false]) ?_ 3 _ rfl; (with_reducible repeat (first | refine blk_drewN ?_ _ | refine blk_drew ?_ | refine blk_alloc ?_ _)); refine blk_put (cs := #[.int .i64 t565, .int .i64 t566, .string (⟨#[]⟩ : ByteArray), .bool false]) ?_ 2 _ rfl; (with_reducible repeat (first | refine blk_drewN ?_ _ | refine blk_drew ?_ | refine blk_alloc ?_ _)); refine blk_put (cs := #[.int .i64 t565, .int .i64 0, .string (⟨#[]⟩ : ByteArray), .bool false]) ?_ 1 _ rfl; (with_reducible repeat (first | refine blk_drewN ?_ _ | refine blk_drew ?_ | refine blk_alloc ?_ _)); refine blk_put (cs := #[.int .i64 0, .int .i64 0, .string (⟨#[]⟩ : ByteArray), .bool false]) ?_ 0 _ rfl; (with_reducible repeat (first | refine blk_drewN ?_ _ | refine blk_drew ?_ | refine blk_alloc ?_ _)); exact BK569.out)) : gb570 ≠ gb569)); clear BK558; clear BK559; clear BK564; clear BK569; clear HB; have BK558 := n0_; have BK559 := n1_; have BK564 := n2_; have BK569 := n3_; have HB := n4_; have BK570 := n5_; have GW570 := n6_; have GE570 := n7_; have NB558_570 := n8_; have NB570_558 := n9_; have NB559_570 := n10_; have NB570_559 := n11_; have NB564_570 := n12_; have NB570_564 := n13_; have NB569_570 := n14_; have NB570_569 := n15_; clear n0_ n1_ n2_ n3_ n4_ n5_ n6_ n7_ n8_ n9_ n10_ n11_ n12_ n13_ n14_ n15_; clear hb hbox hg; have hnb37 := NB570_558.out; have hnc37 := NB558_570.out; have hnb38 := NB570_559.out; have hnc38 := NB559_570.out; have hnb39 := NB570_564.out; have hnc39 := NB564_570.out; have hnb40 := NB570_569.out; have hnc40 := NB569_570.out; have hcz41_0 : w36.cell? ⟨gb570, 0, none⟩ = some (.int .i64 0) := (blk_cell BK570.out 0).trans rfl; have hcz41_1 : w36.cell? ⟨gb570, 1, none⟩ = some (.int .i64 0) := (blk_cell BK570.out 1).trans rfl; have hcz41_2 : w36.cell? ⟨gb570, 2, none⟩ = some (.string (⟨#[]⟩ : ByteArray)) := (blk_cell BK570.out 2).trans rfl; have hcz41_3 : w36.cell? ⟨gb570, 3, none⟩ = some (.bool false) := (blk_cell BK570.out 3).trans rfl; have hfz41_0 := blk_frozen BK570.out 0; have hfz41_1 := blk_frozen BK570.out 1; have hfz41_2 := blk_frozen BK570.out 2; have hfz41_3 := blk_frozen BK570.out 3; have hcz42_0 : w36.cell? ⟨gb564, 0, none⟩ = some (.int .i64 t560) := (blk_cell BK564.out 0).trans rfl; have hcz42_1 : w36.cell? ⟨gb564, 1, none⟩ = some (.int .i64 t561) := (blk_cell BK564.out 1).trans rfl; have hcz42_2 : w36.cell? ⟨gb564, 2, none⟩ = some (.string t562) := (blk_cell BK564.out 2).trans rfl; have hcz42_3 : w36.cell? ⟨gb564, 3, none⟩ = some (.bool t563) := (blk_cell BK564.out 3).trans rfl; have hfz42_0 := blk_frozen BK564.out 0; have hfz42_1 := blk_frozen BK564.out 1; have hfz42_2 := blk_frozen BK564.out 2; have hfz42_3 := blk_frozen BK564.out 3; have hcz43_0 : w36.cell? ⟨gb569, 0, none⟩ = some (.int .i64 t565) := (blk_cell BK569.out 0).trans rfl; have hcz43_1 : w36.cell? ⟨gb569, 1, none⟩ = some (.int .i64 t566) := (blk_cell BK569.out 1).trans rfl; have hcz43_2 : w36.cell? ⟨gb569, 2, none⟩ = some (.string t567) := (blk_cell BK569.out 2).trans rfl; have hcz43_3 : w36.cell? ⟨gb569, 3, none⟩ = some (.bool t568) := (blk_cell BK569.out 3).trans rfl; have hfz43_0 := blk_frozen BK569.out 0; have hfz43_1 := blk_frozen BK569.out 1; have hfz43_2 := blk_frozen BK569.out 2; have hfz43_3 := blk_frozen BK569.out 3) | ((with_reducible refine gate_callee (f := 35) rfl ?_); refine goesL_ (some 31) rfl rfl Tryd.func35 (by kernel_rfl) rfl #[.string a2, .agg #[.int .i64 t560, .int .i64 t561, .string t562, .bool t563], .agg #[.int .i64 t565, .int .i64 t566, .string t567, .bool t568]] rfl (by (try simp only [List.map_toArray, List.map_cons, List.map_nil]); first | done | rfl | (simp only [List.length_drop, List.length_take]; rfl)) ?_; (with_reducible refine (value_Test.calls k a2 t560 t561 t562 t563 t565 t566 t567 t568 t571 t572 _ A6.out).mono ?_); rintro e w44 ⟨rfl, hb⟩; refine ⟨_, rfl, ?_⟩; have n0_ := Aside0.mk (blk_below (g := gb558) (o := .cells #[.int .i64 a0_0, .int .i64 a0_1, .string a0_2, .bool a0_3] 25 (0, 0)) (by (with_reducible repeat (first | refine blk_drewN ?_ _ | refine blk_drew ?_ | refine blk_alloc ?_ _)); refine blk_far ?_ NB558_570.out _; (with_reducible repeat (first | refine blk_drewN ?_ _ | refine blk_drew ?_ | refine blk_alloc ?_ _)); refine blk_far ?_ NB558_570.out _; (with_reducible repeat (first | refine blk_drewN ?_ _ | refine blk_drew ?_ | refine blk_alloc ?_ _)); refine blk_far ?_ NB558_570.out _; (with_reducible repeat (first | refine blk_drewN ?_ _ | refine blk_drew ?_ | refine blk_alloc ?_ _)); refine blk_far ?_ NB558_570.out _; (with_reducible repeat (first | refine blk_drewN ?_ _ | refine blk_drew ?_ | refine blk_alloc ?_ _)); exact BK558.out) hb); have n1_ := Aside0.mk (blk_below (g := gb559) (o := .cells #[.int .i64 a1_0, .int .i64 a1_1, .string a1_2, .bool a1_3] 25 (0, 0)) (by (with_reducible repeat (first | refine blk_drewN ?_ _ | refine blk_drew ?_ | refine blk_alloc ?_ _)); refine blk_far ?_ NB559_570.out _; (with_reducible repeat (first | refine blk_drewN ?_ _ | refine blk_drew ?_ | refine blk_alloc ?_ _)); refine blk_far ?_ NB559_570.out _; (with_reducible repeat (first | refine blk_drewN ?_ _ | refine blk_drew ?_ | refine blk_alloc ?_ _)); refine blk_far ?_ NB559_570.out _; (with_reducible repeat (first | refine blk_drewN ?_ _ | refine blk_drew ?_ | refine blk_alloc ?_ _)); refine blk_far ?_ NB559_570.out _; (with_reducible repeat (first | refine blk_drewN ?_ _ | refine blk_drew ?_ | refine blk_alloc ?_ _)); exact BK559.out) hb); have n2_ := Aside0.mk (blk_below (g := gb564) (o := .cells #[.int .i64 t560, .int .i64 t561, .string t562, .bool t563] 28 (0, 0)) (by (with_reducible repeat (first | refine blk_drewN ?_ _ | refine blk_drew ?_ | refine blk_alloc ?_ _)); refine blk_far ?_ NB564_570.out _; (with_reducible repeat (first | refine blk_drewN ?_ _ | refine blk_drew ?_ | refine blk_alloc ?_ _)); refine blk_far ?_ NB564_570.out _; (with_reducible repeat (first | refine blk_drewN ?_ _ | refine blk_drew ?_ | refine blk_alloc ?_ _)); refine blk_far ?_ NB564_570.out _; (with_reducible repeat (first | refine blk_drewN ?_ _ | refine blk_drew ?_ | refine blk_alloc ?_ _)); refine blk_far ?_ NB564_570.out _; (with_reducible repeat (first | refine blk_drewN ?_ _ | refine blk_drew ?_ | refine blk_alloc ?_ _)); exact BK564.out) hb); have n3_ := Aside0.mk (blk_below (g := gb569) (o := .cells #[.int .i64 t565, .int .i64 t566, .string t567, .bool t568] 28 (0, 0)) (by (with_reducible repeat (first | refine blk_drewN ?_ _ | refine blk_drew ?_ | refine blk_alloc ?_ _)); refine blk_far ?_ NB569_570.out _; (with_reducible repeat (first | refine blk_drewN ?_ _ | refine blk_drew ?_ | refine blk_alloc ?_ _)); refine blk_far ?_ NB569_570.out _; (with_reducible repeat (first | refine blk_drewN ?_ _ | refine blk_drew ?_ | refine blk_alloc ?_ _)); refine blk_far ?_ NB569_570.out _; (with_reducible repeat (first | refine blk_drewN ?_ _ | refine blk_drew ?_ | refine blk_alloc ?_ _)); refine blk_far ?_ NB569_570.out _; (with_reducible repeat (first | refine blk_drewN ?_ _ | refine blk_drew ?_ | refine blk_alloc ?_ _)); exact BK569.out) hb); have n4_ := Aside0.mk (blk_below (g := gb570) (o := .cells #[.int .i64 a0_0, .int .i64 a0_1, .string a0_2, .bool a0_3] 28 (0, 0)) (by (with_reducible repeat (first | refine blk_drewN ?_ _ | refine blk_drew ?_ | refine blk_alloc ?_ _)); refine blk_put (cs := #[.int .i64 a0_0, .int .i64 a0_1, .string a0_2, .bool false]) ?_ 3 _ rfl; (with_reducible repeat (first | refine blk_drewN ?_ _ | refine blk_drew ?_ | refine blk_alloc ?_ _)); refine blk_put (cs := #[.int .i64 a0_0, .int .i64 a0_1, .string (⟨#[]⟩ : ByteArray), .bool false]) ?_ 2 _ rfl; (with_reducible repeat (first | refine blk_drewN ?_ _ | refine blk_drew ?_ | refine blk_alloc ?_ _)); refine blk_put (cs := #[.int .i64 a0_0, .int .i64 0, .string (⟨#[]⟩ : ByteArray), .bool false]) ?_ 1 _ rfl; (with_reducible repeat (first | refine blk_drewN ?_ _ | refine blk_drew ?_ | refine blk_alloc ?_ _)); refine blk_put (cs := #[.int .i64 0, .int .i64 0, .string (⟨#[]⟩ : ByteArray), .bool false]) ?_ 0 _ rfl; (with_reducible repeat (first | refine blk_drewN ?_ _ | refine blk_drew ?_ | refine blk_alloc ?_ _)); exact BK570.out) hb); have n5_ := Aside0.mk (below_step (by repeat (first | (with_reducible first | exact HB.out | apply below_alloc | apply pw_below_drewN | apply below_drew1 | refine below_set ?_ GE558.out | refine below_set ?_ GE559.out | refine below_set ?_ GE564.out | refine below_set ?_ GE569.out | refine below_set ?_ GE570.out) | exact HB.out)) hb); clear BK558; clear BK559; clear BK564; clear BK569; clear BK570; clear HB; have BK558 := n0_; have BK559 := n1_; have BK564 := n2_; have BK569 := n3_; have BK570 := n4_; have HB := n5_; clear n0_ n1_ n2_ n3_ n4_ n5_; (try clear hb); (try clear hb2); (try clear hk); (try clear hi); have hcz45_0 : w44.cell? ⟨gb564, 0, none⟩ = some (.int .i64 t560) := (blk_cell BK564.out 0).trans rfl; have hcz45_1 : w44.cell? ⟨gb564, 1, none⟩ = some (.int .i64 t561) := (blk_cell BK564.out 1).trans rfl; have hcz45_2 : w44.cell? ⟨gb564, 2, none⟩ = some (.string t562) := (blk_cell BK564.out 2).trans rfl; have hcz45_3 : w44.cell? ⟨gb564, 3, none⟩ = some (.bool t563) := (blk_cell BK564.out 3).trans rfl; have hfz45_0 := blk_frozen BK564.out 0; have hfz45_1 := blk_frozen BK564.out 1; have hfz45_2 := blk_frozen BK564.out 2; have hfz45_3 := blk_frozen BK564.out 3; have hcz46_0 : w44.cell? ⟨gb569, 0, none⟩ = some (.int .i64 t565) := (blk_cell BK569.out 0).trans rfl; have hcz46_1 : w44.cell? ⟨gb569, 1, none⟩ = some (.int .i64 t566) := (blk_cell BK569.out 1).trans rfl; have hcz46_2 : w44.cell? ⟨gb569, 2, none⟩ = some (.string t567) := (blk_cell BK569.out 2).trans rfl; have hcz46_3 : w44.cell? ⟨gb569, 3, none⟩ = some (.bool t568) := (blk_cell BK569.out 3).trans rfl; have hfz46_0 := blk_frozen BK569.out 0; have hfz46_1 := blk_frozen BK569.out 1; have hfz46_2 := blk_frozen BK569.out 2; have hfz46_3 := blk_frozen BK569.out 3) | ((with_reducible refine gate_callee (f := 43) rfl ?_); refine goesL_ (some 38) rfl rfl Tryd.func43 (by kernel_rfl) rfl #[.string a2, .agg #[.int .i64 t560, .int .i64 t561, .string t562, .bool t563], .agg #[.int .i64 t565, .int .i64 t566, .string t567, .bool t568]] rfl (by (try simp only [List.map_toArray, List.map_cons, List.map_nil]); first | done | rfl | (simp only [List.length_drop, List.length_take]; rfl)) ?_; (with_reducible refine (stileref01_Test.calls k a2 t560 t561 t562 t563 t565 t566 t567 t568 t573 t574 _ A7.out).mono ?_); rintro e w47 ⟨rfl, hb⟩; refine ⟨_, rfl, ?_⟩; have n0_ := Aside0.mk (blk_below (g := gb558) (o := .cells #[.int .i64 a0_0, .int .i64 a0_1, .string a0_2, .bool a0_3] 25 (0, 0)) (by (with_reducible repeat (first | refine blk_drewN ?_ _ | refine blk_drew ?_ | refine blk_alloc ?_ _)); exact BK558.out) hb); have n1_ := Aside0.mk (blk_below (g := gb559) (o := .cells #[.int .i64 a1_0, .int .i64 a1_1, .string a1_2, .bool a1_3] 25 (0, 0)) (by (with_reducible repeat (first | refine blk_drewN ?_ _ | refine blk_drew ?_ | refine blk_alloc ?_ _)); exact BK559.out) hb); have n2_ := Aside0.mk (blk_below (g := gb564) (o := .cells #[.int .i64 t560, .int .i64 t561, .string t562, .bool t563] 28 (0, 0)) (by (with_reducible repeat (first | refine blk_drewN ?_ _ | refine blk_drew ?_ | refine blk_alloc ?_ _)); exact BK564.out) hb); have n3_ := Aside0.mk (blk_below (g := gb569) (o := .cells #[.int .i64 t565, .int .i64 t566, .string t567, .bool t568] 28 (0, 0)) (by (with_reducible repeat (first | refine blk_drewN ?_ _ | refine blk_drew ?_ | refine blk_alloc ?_ _)); exact BK569.out) hb); have n4_ := Aside0.mk (blk_below (g := gb570) (o := .cells #[.int .i64 a0_0, .int .i64 a0_1, .string a0_2, .bool a0_3] 28 (0, 0)) (by (with_reducible repeat (first | refine blk_drewN ?_ _ | refine blk_drew ?_ | refine blk_alloc ?_ _)); exact BK570.out) hb); have n5_ := Aside0.mk (below_step (by repeat (first | (with_reducible first | exact HB.out | apply below_alloc | apply pw_below_drewN | apply below_drew1 | refine below_set ?_ GE558.out | refine below_set ?_ GE559.out | refine below_set ?_ GE564.out | refine below_set ?_ GE569.out | refine below_set ?_ GE570.out) | exact HB.out)) hb); clear BK558; clear BK559; clear BK564; clear BK569; clear BK570; clear HB; have BK558 := n0_; have BK559 := n1_; have BK564 := n2_; have BK569 := n3_; have BK570 := n4_; have HB := n5_; clear n0_ n1_ n2_ n3_ n4_ n5_; (try clear hb); (try clear hb2); (try clear hk); (try clear hi)))
            have n0_ := Aside0.mk (blk_drew BK558.out)
            have n1_ := Aside0.mk (blk_drew BK559.out)
            have n2_ := Aside0.mk (blk_drew BK564.out)
            have n3_ := Aside0.mk (blk_drew BK569.out)
            have n4_ := Aside0.mk (blk_drew BK570.out)
            have n5_ := Aside0.mk (below_drew1 HB.out)
            clear BK558
            clear BK559
            clear BK564
            clear BK569
            clear BK570
            clear HB
            have BK558 := n0_
            have BK559 := n1_
            have BK564 := n2_
            have BK569 := n3_
            have BK570 := n4_
            have HB := n5_
            clear n0_ n1_ n2_ n3_ n4_ n5_
            refine start_ (n := 32) (S := fun w' => w'.cell? ⟨gb570, 0, none⟩ = some (.int .i64 a0_0) ∧ w'.cell? ⟨gb570, 1, none⟩ = some (.int .i64 a0_1) ∧ w'.cell? ⟨gb570, 2, none⟩ = some (.string a0_2) ∧ w'.cell? ⟨gb570, 3, none⟩ = some (.bool a0_3) ∧ w'.cell? ⟨gb564, 0, none⟩ = some (.int .i64 t560) ∧ w'.cell? ⟨gb564, 1, none⟩ = some (.int .i64 t561) ∧ w'.cell? ⟨gb564, 2, none⟩ = some (.string t562) ∧ w'.cell? ⟨gb564, 3, none⟩ = some (.bool t563) ∧ w'.cell? ⟨gb569, 0, none⟩ = some (.int .i64 t565) ∧ w'.cell? ⟨gb569, 1, none⟩ = some (.int .i64 t566) ∧ w'.cell? ⟨gb569, 2, none⟩ = some (.string t567) ∧ w'.cell? ⟨gb569, 3, none⟩ = some (.bool t568)) (ds := []) #[false, false, false, false, false, false, false, false, false, false, false, false, false, false, false, false, false, false, false, false, false, false, false, false, false, false, false, false, false, false, false, false] (by kernel_rfl) rfl rfl ⟨(blk_cell BK570.out 0).trans rfl, (blk_cell BK570.out 1).trans rfl, (blk_cell BK570.out 2).trans rfl, (blk_cell BK570.out 3).trans rfl, (blk_cell BK564.out 0).trans rfl, (blk_cell BK564.out 1).trans rfl, (blk_cell BK564.out 2).trans rfl, (blk_cell BK564.out 3).trans rfl, (blk_cell BK569.out 0).trans rfl, (blk_cell BK569.out 1).trans rfl, (blk_cell BK569.out 2).trans rfl, (blk_cell BK569.out 3).trans rfl⟩ (fun hHeld => ?_); refine with_tabW stilelaw01_ValueOrders.tab6 stilelaw01_ValueOrders.bits6 (fun HT_ HW_ => ?_)
            generalize w47.drew = w48 at BK558 BK559 BK564 BK569 BK570 HB hHeld ⊢
            refine one_ (i := 0) (N := some 41) #[true, false, false, false, false, false, false, false, false, false, false, false, false, false, false, false, false, false, false, false, false, false, false, false, false, false, false, false, false, false, false, false] rfl rfl (one_of HT_.out (by kernel_rfl)) (by decide) (fun K hK => ?_)
            refine goes_ Tryd.func12 (by kernel_rfl) rfl #[] (by rfl) rfl rfl (by (try simp only [List.map_toArray, List.map_cons, List.map_nil]); first | done | rfl | (simp only [List.length_drop, List.length_take]; rfl)) ?_
            with_reducible refine (stilelaw01_alive.calls k  true _ A8.out).mono ?_
            rintro e w49 ⟨rfl, hb⟩
            refine ⟨_, rfl, ?_⟩
            have n0_ := Aside0.mk (blk_below (g := gb558) (o := .cells #[.int .i64 a0_0, .int .i64 a0_1, .string a0_2, .bool a0_3] 25 (0, 0)) (by (with_reducible repeat (first | refine blk_drewN ?_ _ | refine blk_drew ?_ | refine blk_alloc ?_ _)); exact BK558.out) hb)
            have n1_ := Aside0.mk (blk_below (g := gb559) (o := .cells #[.int .i64 a1_0, .int .i64 a1_1, .string a1_2, .bool a1_3] 25 (0, 0)) (by (with_reducible repeat (first | refine blk_drewN ?_ _ | refine blk_drew ?_ | refine blk_alloc ?_ _)); exact BK559.out) hb)
            have n2_ := Aside0.mk (blk_below (g := gb564) (o := .cells #[.int .i64 t560, .int .i64 t561, .string t562, .bool t563] 28 (0, 0)) (by (with_reducible repeat (first | refine blk_drewN ?_ _ | refine blk_drew ?_ | refine blk_alloc ?_ _)); exact BK564.out) hb)
            have n3_ := Aside0.mk (blk_below (g := gb569) (o := .cells #[.int .i64 t565, .int .i64 t566, .string t567, .bool t568] 28 (0, 0)) (by (with_reducible repeat (first | refine blk_drewN ?_ _ | refine blk_drew ?_ | refine blk_alloc ?_ _)); exact BK569.out) hb)
            have n4_ := Aside0.mk (blk_below (g := gb570) (o := .cells #[.int .i64 a0_0, .int .i64 a0_1, .string a0_2, .bool a0_3] 28 (0, 0)) (by (with_reducible repeat (first | refine blk_drewN ?_ _ | refine blk_drew ?_ | refine blk_alloc ?_ _)); exact BK570.out) hb)
            have n5_ := Aside0.mk (below_step (by repeat (first | (with_reducible first | exact HB.out | apply below_alloc | apply pw_below_drewN | apply below_drew1 | refine below_set ?_ GE558.out | refine below_set ?_ GE559.out | refine below_set ?_ GE564.out | refine below_set ?_ GE569.out | refine below_set ?_ GE570.out) | exact HB.out)) hb)
            clear BK558
            clear BK559
            clear BK564
            clear BK569
            clear BK570
            clear HB
            have BK558 := n0_
            have BK559 := n1_
            have BK564 := n2_
            have BK569 := n3_
            have BK570 := n4_
            have HB := n5_
            clear n0_ n1_ n2_ n3_ n4_ n5_
            (try clear hb)
            (try clear hb2)
            (try clear hk)
            (try clear hi)
            refine hK.out _ _ ⟨(blk_cell BK570.out 0).trans rfl, (blk_cell BK570.out 1).trans rfl, (blk_cell BK570.out 2).trans rfl, (blk_cell BK570.out 3).trans rfl, (blk_cell BK564.out 0).trans rfl, (blk_cell BK564.out 1).trans rfl, (blk_cell BK564.out 2).trans rfl, (blk_cell BK564.out 3).trans rfl, (blk_cell BK569.out 0).trans rfl, (blk_cell BK569.out 1).trans rfl, (blk_cell BK569.out 2).trans rfl, (blk_cell BK569.out 3).trans rfl⟩ (fun hHeld => ?_)
            clear hK K
            refine norm_ (a' := ?_) ?_ ?_
            rotate_left
            · show Act.put _ (some 41) _ = _
              simp only [Act.put, List.setIfInBounds_toArray, List.set_cons_zero, List.set_cons_succ, i64_w, i32_w]
              rfl
            refine pure_ (i := 1) (N := some 42) (v := ?_) (a' := ?_) #[true, true, false, false, false, false, false, false, false, false, false, false, false, false, false, false, false, false, false, false, false, false, false, false, false, false, false, false, false, false, false, false] rfl rfl (any_of HT_.out (by kernel_rfl)) (fun _ _ _ h => h) (Or.inl ⟨by rfl, ?_⟩) ?_ ?_
            rotate_left
            · intro w'
              go_simp
              with_reducible rfl
            rotate_left
            · simp only [Act.put, List.setIfInBounds_toArray, List.set_cons_zero, List.set_cons_succ, i64_w, i32_w]
              rfl
            refine take_ (i := 2) (N := some 43) (v := ?_) (a' := ?_) #[true, true, true, false, false, false, false, false, false, false, false, false, false, false, false, false, false, false, false, false, false, false, false, false, false, false, false, false, false, false, false, false] rfl rfl (take_ofW HT_.out HW_.out (by kernel_rfl)) (fun _ _ _ h => h) (Or.inl ⟨by rfl, ?_⟩) hHeld ?_ ?_
            rotate_left
            · rintro w' ⟨s0, s1, s2, s3, s4, s5, s6, s7, s8, s9, s10, s11⟩
              go_simp
              with_reducible rfl
            rotate_left
            · simp only [Act.put, List.setIfInBounds_toArray, List.set_cons_zero, List.set_cons_succ, i64_w, i32_w]
              rfl
            refine take_ (i := 4) (N := some 45) (v := ?_) (a' := ?_) #[true, true, true, false, true, false, false, false, false, false, false, false, false, false, false, false, false, false, false, false, false, false, false, false, false, false, false, false, false, false, false, false] rfl rfl (take_ofW HT_.out HW_.out (by kernel_rfl)) (fun _ _ _ h => h) (Or.inl ⟨by rfl, ?_⟩) hHeld ?_ ?_
            rotate_left
            · rintro w' ⟨s0, s1, s2, s3, s4, s5, s6, s7, s8, s9, s10, s11⟩
              go_simp
              with_reducible rfl
            rotate_left
            · simp only [Act.put, List.setIfInBounds_toArray, List.set_cons_zero, List.set_cons_succ, i64_w, i32_w]
              rfl
            refine one_ (i := 3) (N := some 44) #[true, true, true, true, true, false, false, false, false, false, false, false, false, false, false, false, false, false, false, false, false, false, false, false, false, false, false, false, false, false, false, false] rfl rfl (one_of HT_.out (by kernel_rfl)) (by decide) (fun K hK => ?_)
            refine goes_ Tryd.func44 (by kernel_rfl) rfl #[.agg #[.int .i64 a0_0, .int .i64 a0_1, .string a0_2, .bool a0_3]] (by rfl) rfl rfl (by (try simp only [List.map_toArray, List.map_cons, List.map_nil]); first | done | rfl | (simp only [List.length_drop, List.length_take]; rfl)) ?_
            with_reducible refine (value_Right.calls a0_0 a0_1 a0_2 a0_3 t576 _ A10.out).mono ?_
            rintro e w50 ⟨rfl, hb⟩
            refine ⟨_, rfl, ?_⟩
            have n0_ := Aside0.mk (blk_below (g := gb558) (o := .cells #[.int .i64 a0_0, .int .i64 a0_1, .string a0_2, .bool a0_3] 25 (0, 0)) (by (with_reducible repeat (first | refine blk_drewN ?_ _ | refine blk_drew ?_ | refine blk_alloc ?_ _)); exact BK558.out) hb)
            have n1_ := Aside0.mk (blk_below (g := gb559) (o := .cells #[.int .i64 a1_0, .int .i64 a1_1, .string a1_2, .bool a1_3] 25 (0, 0)) (by (with_reducible repeat (first | refine blk_drewN ?_ _ | refine blk_drew ?_ | refine blk_alloc ?_ _)); exact BK559.out) hb)
            have n2_ := Aside0.mk (blk_below (g := gb564) (o := .cells #[.int .i64 t560, .int .i64 t561, .string t562, .bool t563] 28 (0, 0)) (by (with_reducible repeat (first | refine blk_drewN ?_ _ | refine blk_drew ?_ | refine blk_alloc ?_ _)); exact BK564.out) hb)
            have n3_ := Aside0.mk (blk_below (g := gb569) (o := .cells #[.int .i64 t565, .int .i64 t566, .string t567, .bool t568] 28 (0, 0)) (by (with_reducible repeat (first | refine blk_drewN ?_ _ | refine blk_drew ?_ | refine blk_alloc ?_ _)); exact BK569.out) hb)
            have n4_ := Aside0.mk (blk_below (g := gb570) (o := .cells #[.int .i64 a0_0, .int .i64 a0_1, .string a0_2, .bool a0_3] 28 (0, 0)) (by (with_reducible repeat (first | refine blk_drewN ?_ _ | refine blk_drew ?_ | refine blk_alloc ?_ _)); exact BK570.out) hb)
            have n5_ := Aside0.mk (below_step (by repeat (first | (with_reducible first | exact HB.out | apply below_alloc | apply pw_below_drewN | apply below_drew1 | refine below_set ?_ GE558.out | refine below_set ?_ GE559.out | refine below_set ?_ GE564.out | refine below_set ?_ GE569.out | refine below_set ?_ GE570.out) | exact HB.out)) hb)
            clear BK558
            clear BK559
            clear BK564
            clear BK569
            clear BK570
            clear HB
            have BK558 := n0_
            have BK559 := n1_
            have BK564 := n2_
            have BK569 := n3_
            have BK570 := n4_
            have HB := n5_
            clear n0_ n1_ n2_ n3_ n4_ n5_
            (try clear hb)
            (try clear hb2)
            (try clear hk)
            (try clear hi)
            refine hK.out _ _ ⟨(blk_cell BK570.out 0).trans rfl, (blk_cell BK570.out 1).trans rfl, (blk_cell BK570.out 2).trans rfl, (blk_cell BK570.out 3).trans rfl, (blk_cell BK564.out 0).trans rfl, (blk_cell BK564.out 1).trans rfl, (blk_cell BK564.out 2).trans rfl, (blk_cell BK564.out 3).trans rfl, (blk_cell BK569.out 0).trans rfl, (blk_cell BK569.out 1).trans rfl, (blk_cell BK569.out 2).trans rfl, (blk_cell BK569.out 3).trans rfl⟩ (fun hHeld => ?_)
            clear hK K
            refine norm_ (a' := ?_) ?_ ?_
            rotate_left
            · show Act.put _ (some 44) _ = _
              simp only [Act.put, List.setIfInBounds_toArray, List.set_cons_zero, List.set_cons_succ, i64_w, i32_w]
              rfl
            refine one_ (i := 5) (N := some 46) #[true, true, true, true, true, true, false, false, false, false, false, false, false, false, false, false, false, false, false, false, false, false, false, false, false, false, false, false, false, false, false, false] rfl rfl (one_of HT_.out (by kernel_rfl)) (by decide) (fun K hK => ?_)
            refine goes_ Tryd.func45 (by kernel_rfl) rfl #[.agg #[.int .i64 a0_0, .int .i64 a0_1, .string a0_2, .bool a0_3]] (by rfl) rfl rfl (by (try simp only [List.map_toArray, List.map_cons, List.map_nil]); first | done | rfl | (simp only [List.length_drop, List.length_take]; rfl)) ?_
            with_reducible refine (stileref01_Right.calls a0_0 a0_1 a0_2 a0_3 t577 _ A11.out).mono ?_
            rintro e w51 ⟨rfl, hb⟩
            refine ⟨_, rfl, ?_⟩
            have n0_ := Aside0.mk (blk_below (g := gb558) (o := .cells #[.int .i64 a0_0, .int .i64 a0_1, .string a0_2, .bool a0_3] 25 (0, 0)) (by (with_reducible repeat (first | refine blk_drewN ?_ _ | refine blk_drew ?_ | refine blk_alloc ?_ _)); exact BK558.out) hb)
            have n1_ := Aside0.mk (blk_below (g := gb559) (o := .cells #[.int .i64 a1_0, .int .i64 a1_1, .string a1_2, .bool a1_3] 25 (0, 0)) (by (with_reducible repeat (first | refine blk_drewN ?_ _ | refine blk_drew ?_ | refine blk_alloc ?_ _)); exact BK559.out) hb)
            have n2_ := Aside0.mk (blk_below (g := gb564) (o := .cells #[.int .i64 t560, .int .i64 t561, .string t562, .bool t563] 28 (0, 0)) (by (with_reducible repeat (first | refine blk_drewN ?_ _ | refine blk_drew ?_ | refine blk_alloc ?_ _)); exact BK564.out) hb)
            have n3_ := Aside0.mk (blk_below (g := gb569) (o := .cells #[.int .i64 t565, .int .i64 t566, .string t567, .bool t568] 28 (0, 0)) (by (with_reducible repeat (first | refine blk_drewN ?_ _ | refine blk_drew ?_ | refine blk_alloc ?_ _)); exact BK569.out) hb)
            have n4_ := Aside0.mk (blk_below (g := gb570) (o := .cells #[.int .i64 a0_0, .int .i64 a0_1, .string a0_2, .bool a0_3] 28 (0, 0)) (by (with_reducible repeat (first | refine blk_drewN ?_ _ | refine blk_drew ?_ | refine blk_alloc ?_ _)); exact BK570.out) hb)
            have n5_ := Aside0.mk (below_step (by repeat (first | (with_reducible first | exact HB.out | apply below_alloc | apply pw_below_drewN | apply below_drew1 | refine below_set ?_ GE558.out | refine below_set ?_ GE559.out | refine below_set ?_ GE564.out | refine below_set ?_ GE569.out | refine below_set ?_ GE570.out) | exact HB.out)) hb)
            clear BK558
            clear BK559
            clear BK564
            clear BK569
            clear BK570
            clear HB
            have BK558 := n0_
            have BK559 := n1_
            have BK564 := n2_
            have BK569 := n3_
            have BK570 := n4_
            have HB := n5_
            clear n0_ n1_ n2_ n3_ n4_ n5_
            (try clear hb)
            (try clear hb2)
            (try clear hk)
            (try clear hi)
            refine hK.out _ _ ⟨(blk_cell BK570.out 0).trans rfl, (blk_cell BK570.out 1).trans rfl, (blk_cell BK570.out 2).trans rfl, (blk_cell BK570.out 3).trans rfl, (blk_cell BK564.out 0).trans rfl, (blk_cell BK564.out 1).trans rfl, (blk_cell BK564.out 2).trans rfl, (blk_cell BK564.out 3).trans rfl, (blk_cell BK569.out 0).trans rfl, (blk_cell BK569.out 1).trans rfl, (blk_cell BK569.out 2).trans rfl, (blk_cell BK569.out 3).trans rfl⟩ (fun hHeld => ?_)
            clear hK K
            refine norm_ (a' := ?_) ?_ ?_
            rotate_left
            · show Act.put _ (some 46) _ = _
              simp only [Act.put, List.setIfInBounds_toArray, List.set_cons_zero, List.set_cons_succ, i64_w, i32_w]
              rfl
            refine pure_ (i := 6) (N := some 47) (v := ?_) (a' := ?_) #[true, true, true, true, true, true, true, false, false, false, false, false, false, false, false, false, false, false, false, false, false, false, false, false, false, false, false, false, false, false, false, false] rfl rfl (any_of HT_.out (by kernel_rfl)) (fun _ _ _ h => h) (Or.inl ⟨by rfl, ?_⟩) ?_ ?_
            rotate_left
            · intro w'
              go_simp
              with_reducible rfl
            rotate_left
            · simp only [Act.put, List.setIfInBounds_toArray, List.set_cons_zero, List.set_cons_succ, i64_w, i32_w]
              rfl
            refine pure_ (i := 7) (N := some 48) (v := ?_) (a' := ?_) #[true, true, true, true, true, true, true, true, false, false, false, false, false, false, false, false, false, false, false, false, false, false, false, false, false, false, false, false, false, false, false, false] rfl rfl (any_of HT_.out (by kernel_rfl)) (fun _ _ _ h => h) (Or.inl ⟨by rfl, ?_⟩) ?_ ?_
            rotate_left
            · intro w'
              go_simp
              with_reducible rfl
            rotate_left
            · simp only [Act.put, List.setIfInBounds_toArray, List.set_cons_zero, List.set_cons_succ, i64_w, i32_w]
              rfl
            refine pure_ (i := 8) (N := some 49) (v := ?_) (a' := ?_) #[true, true, true, true, true, true, true, true, true, false, false, false, false, false, false, false, false, false, false, false, false, false, false, false, false, false, false, false, false, false, false, false] rfl rfl (any_of HT_.out (by kernel_rfl)) (fun _ _ _ h => h) (Or.inl ⟨by rfl, ?_⟩) ?_ ?_
            rotate_left
            · intro w'
              go_simp
              with_reducible rfl
            rotate_left
            · simp only [Act.put, List.setIfInBounds_toArray, List.set_cons_zero, List.set_cons_succ, i64_w, i32_w]
              rfl
            refine take_ (i := 9) (N := some 50) (v := ?_) (a' := ?_) #[true, true, true, true, true, true, true, true, true, true, false, false, false, false, false, false, false, false, false, false, false, false, false, false, false, false, false, false, false, false, false, false] rfl rfl (take_ofW HT_.out HW_.out (by kernel_rfl)) (fun _ _ _ h => h) (Or.inl ⟨by rfl, ?_⟩) hHeld ?_ ?_
            rotate_left
            · rintro w' ⟨s0, s1, s2, s3, s4, s5, s6, s7, s8, s9, s10, s11⟩
              go_simp
              with_reducible rfl
            rotate_left
            · simp only [Act.put, List.setIfInBounds_toArray, List.set_cons_zero, List.set_cons_succ, i64_w, i32_w]
              rfl
            refine one_ (i := 10) (N := some 51) #[true, true, true, true, true, true, true, true, true, true, true, false, false, false, false, false, false, false, false, false, false, false, false, false, false, false, false, false, false, false, false, false] rfl rfl (one_of HT_.out (by kernel_rfl)) (by decide) (fun K hK => ?_)
            refine goes_ Tryd.func44 (by kernel_rfl) rfl #[.agg #[.int .i64 t560, .int .i64 t561, .string t562, .bool t563]] (by rfl) rfl rfl (by (try simp only [List.map_toArray, List.map_cons, List.map_nil]); first | done | rfl | (simp only [List.length_drop, List.length_take]; rfl)) ?_
            with_reducible refine (value_Right.calls t560 t561 t562 t563 true _ A13.out).mono ?_
            rintro e w52 ⟨rfl, hb⟩
            refine ⟨_, rfl, ?_⟩
            have n0_ := Aside0.mk (blk_below (g := gb558) (o := .cells #[.int .i64 a0_0, .int .i64 a0_1, .string a0_2, .bool a0_3] 25 (0, 0)) (by (with_reducible repeat (first | refine blk_drewN ?_ _ | refine blk_drew ?_ | refine blk_alloc ?_ _)); exact BK558.out) hb)
            have n1_ := Aside0.mk (blk_below (g := gb559) (o := .cells #[.int .i64 a1_0, .int .i64 a1_1, .string a1_2, .bool a1_3] 25 (0, 0)) (by (with_reducible repeat (first | refine blk_drewN ?_ _ | refine blk_drew ?_ | refine blk_alloc ?_ _)); exact BK559.out) hb)
            have n2_ := Aside0.mk (blk_below (g := gb564) (o := .cells #[.int .i64 t560, .int .i64 t561, .string t562, .bool t563] 28 (0, 0)) (by (with_reducible repeat (first | refine blk_drewN ?_ _ | refine blk_drew ?_ | refine blk_alloc ?_ _)); exact BK564.out) hb)
            have n3_ := Aside0.mk (blk_below (g := gb569) (o := .cells #[.int .i64 t565, .int .i64 t566, .string t567, .bool t568] 28 (0, 0)) (by (with_reducible repeat (first | refine blk_drewN ?_ _ | refine blk_drew ?_ | refine blk_alloc ?_ _)); exact BK569.out) hb)
            have n4_ := Aside0.mk (blk_below (g := gb570) (o := .cells #[.int .i64 a0_0, .int .i64 a0_1, .string a0_2, .bool a0_3] 28 (0, 0)) (by (with_reducible repeat (first | refine blk_drewN ?_ _ | refine blk_drew ?_ | refine blk_alloc ?_ _)); exact BK570.out) hb)
            have n5_ := Aside0.mk (below_step (by repeat (first | (with_reducible first | exact HB.out | apply below_alloc | apply pw_below_drewN | apply below_drew1 | refine below_set ?_ GE558.out | refine below_set ?_ GE559.out | refine below_set ?_ GE564.out | refine below_set ?_ GE569.out | refine below_set ?_ GE570.out) | exact HB.out)) hb)
            clear BK558
            clear BK559
            clear BK564
            clear BK569
            clear BK570
            clear HB
            have BK558 := n0_
            have BK559 := n1_
            have BK564 := n2_
            have BK569 := n3_
            have BK570 := n4_
            have HB := n5_
            clear n0_ n1_ n2_ n3_ n4_ n5_
            (try clear hb)
            (try clear hb2)
            (try clear hk)
            (try clear hi)
            refine hK.out _ _ ⟨(blk_cell BK570.out 0).trans rfl, (blk_cell BK570.out 1).trans rfl, (blk_cell BK570.out 2).trans rfl, (blk_cell BK570.out 3).trans rfl, (blk_cell BK564.out 0).trans rfl, (blk_cell BK564.out 1).trans rfl, (blk_cell BK564.out 2).trans rfl, (blk_cell BK564.out 3).trans rfl, (blk_cell BK569.out 0).trans rfl, (blk_cell BK569.out 1).trans rfl, (blk_cell BK569.out 2).trans rfl, (blk_cell BK569.out 3).trans rfl⟩ (fun hHeld => ?_)
            clear hK K
            refine norm_ (a' := ?_) ?_ ?_
            rotate_left
            · show Act.put _ (some 51) _ = _
              simp only [Act.put, List.setIfInBounds_toArray, List.set_cons_zero, List.set_cons_succ, i64_w, i32_w]
              rfl
            refine pure_ (i := 11) (N := some 52) (v := ?_) (a' := ?_) #[true, true, true, true, true, true, true, true, true, true, true, true, false, false, false, false, false, false, false, false, false, false, false, false, false, false, false, false, false, false, false, false] rfl rfl (any_of HT_.out (by kernel_rfl)) (fun _ _ _ h => h) (Or.inl ⟨by rfl, ?_⟩) ?_ ?_
            rotate_left
            · intro w'
              go_simp
              with_reducible rfl
            rotate_left
            · simp only [Act.put, List.setIfInBounds_toArray, List.set_cons_zero, List.set_cons_succ, i64_w, i32_w]
              rfl
            refine pure_ (i := 12) (N := some 53) (v := ?_) (a' := ?_) #[true, true, true, true, true, true, true, true, true, true, true, true, true, false, false, false, false, false, false, false, false, false, false, false, false, false, false, false, false, false, false, false] rfl rfl (any_of HT_.out (by kernel_rfl)) (fun _ _ _ h => h) (Or.inl ⟨by rfl, ?_⟩) ?_ ?_
            rotate_left
            · intro w'
              go_simp
              with_reducible rfl
            rotate_left
            · simp only [Act.put, List.setIfInBounds_toArray, List.set_cons_zero, List.set_cons_succ, i64_w, i32_w]
              rfl
            refine take_ (i := 13) (N := some 54) (v := ?_) (a' := ?_) #[true, true, true, true, true, true, true, true, true, true, true, true, true, true, false, false, false, false, false, false, false, false, false, false, false, false, false, false, false, false, false, false] rfl rfl (take_ofW HT_.out HW_.out (by kernel_rfl)) (fun _ _ _ h => h) (Or.inl ⟨by rfl, ?_⟩) hHeld ?_ ?_
            rotate_left
            · rintro w' ⟨s0, s1, s2, s3, s4, s5, s6, s7, s8, s9, s10, s11⟩
              go_simp
              with_reducible rfl
            rotate_left
            · simp only [Act.put, List.setIfInBounds_toArray, List.set_cons_zero, List.set_cons_succ, i64_w, i32_w]
              rfl
            refine take_ (i := 14) (N := some 55) (v := ?_) (a' := ?_) #[true, true, true, true, true, true, true, true, true, true, true, true, true, true, true, false, false, false, false, false, false, false, false, false, false, false, false, false, false, false, false, false] rfl rfl (take_ofW HT_.out HW_.out (by kernel_rfl)) (fun _ _ _ h => h) (Or.inl ⟨by rfl, ?_⟩) hHeld ?_ ?_
            rotate_left
            · rintro w' ⟨s0, s1, s2, s3, s4, s5, s6, s7, s8, s9, s10, s11⟩
              go_simp
              with_reducible rfl
            rotate_left
            · simp only [Act.put, List.setIfInBounds_toArray, List.set_cons_zero, List.set_cons_succ, i64_w, i32_w]
              rfl
            refine take_ (i := 16) (N := some 57) (v := ?_) (a' := ?_) #[true, true, true, true, true, true, true, true, true, true, true, true, true, true, true, false, true, false, false, false, false, false, false, false, false, false, false, false, false, false, false, false] rfl rfl (take_ofW HT_.out HW_.out (by kernel_rfl)) (fun _ _ _ h => h) (Or.inl ⟨by rfl, ?_⟩) hHeld ?_ ?_
            rotate_left
            · rintro w' ⟨s0, s1, s2, s3, s4, s5, s6, s7, s8, s9, s10, s11⟩
              go_simp
              with_reducible rfl
            rotate_left
            · simp only [Act.put, List.setIfInBounds_toArray, List.set_cons_zero, List.set_cons_succ, i64_w, i32_w]
              rfl
            refine take_ (i := 17) (N := some 58) (v := ?_) (a' := ?_) #[true, true, true, true, true, true, true, true, true, true, true, true, true, true, true, false, true, true, false, false, false, false, false, false, false, false, false, false, false, false, false, false] rfl rfl (take_ofW HT_.out HW_.out (by kernel_rfl)) (fun _ _ _ h => h) (Or.inl ⟨by rfl, ?_⟩) hHeld ?_ ?_
            rotate_left
            · rintro w' ⟨s0, s1, s2, s3, s4, s5, s6, s7, s8, s9, s10, s11⟩
              go_simp
              with_reducible rfl
            rotate_left
            · simp only [Act.put, List.setIfInBounds_toArray, List.set_cons_zero, List.set_cons_succ, i64_w, i32_w]
              rfl
            refine one_ (i := 15) (N := some 56) #[true, true, true, true, true, true, true, true, true, true, true, true, true, true, true, true, true, true, false, false, false, false, false, false, false, false, false, false, false, false, false, false] rfl rfl (one_of HT_.out (by kernel_rfl)) (by decide) (fun K hK => ?_)
            refine goes_ Tryd.func16 (by kernel_rfl) rfl #[.agg #[.int .i64 t560, .int .i64 t561, .string t562, .bool t563], .agg #[.int .i64 t565, .int .i64 t566, .string t567, .bool t568]] (by rfl) rfl rfl (by (try simp only [List.map_toArray, List.map_cons, List.map_nil]); first | done | rfl | (simp only [List.length_drop, List.length_take]; rfl)) ?_
            with_reducible refine (value_Order.calls t560 t561 t562 t563 t565 t566 t567 t568 t579 _ A15.out).mono ?_
            rintro e w53 ⟨rfl, hb⟩
            refine ⟨_, rfl, ?_⟩
            have n0_ := Aside0.mk (blk_below (g := gb558) (o := .cells #[.int .i64 a0_0, .int .i64 a0_1, .string a0_2, .bool a0_3] 25 (0, 0)) (by (with_reducible repeat (first | refine blk_drewN ?_ _ | refine blk_drew ?_ | refine blk_alloc ?_ _)); exact BK558.out) hb)
            have n1_ := Aside0.mk (blk_below (g := gb559) (o := .cells #[.int .i64 a1_0, .int .i64 a1_1, .string a1_2, .bool a1_3] 25 (0, 0)) (by (with_reducible repeat (first | refine blk_drewN ?_ _ | refine blk_drew ?_ | refine blk_alloc ?_ _)); exact BK559.out) hb)
            have n2_ := Aside0.mk (blk_below (g := gb564) (o := .cells #[.int .i64 t560, .int .i64 t561, .string t562, .bool t563] 28 (0, 0)) (by (with_reducible repeat (first | refine blk_drewN ?_ _ | refine blk_drew ?_ | refine blk_alloc ?_ _)); exact BK564.out) hb)
            have n3_ := Aside0.mk (blk_below (g := gb569) (o := .cells #[.int .i64 t565, .int .i64 t566, .string t567, .bool t568] 28 (0, 0)) (by (with_reducible repeat (first | refine blk_drewN ?_ _ | refine blk_drew ?_ | refine blk_alloc ?_ _)); exact BK569.out) hb)
            have n4_ := Aside0.mk (blk_below (g := gb570) (o := .cells #[.int .i64 a0_0, .int .i64 a0_1, .string a0_2, .bool a0_3] 28 (0, 0)) (by (with_reducible repeat (first | refine blk_drewN ?_ _ | refine blk_drew ?_ | refine blk_alloc ?_ _)); exact BK570.out) hb)
            have n5_ := Aside0.mk (below_step (by repeat (first | (with_reducible first | exact HB.out | apply below_alloc | apply pw_below_drewN | apply below_drew1 | refine below_set ?_ GE558.out | refine below_set ?_ GE559.out | refine below_set ?_ GE564.out | refine below_set ?_ GE569.out | refine below_set ?_ GE570.out) | exact HB.out)) hb)
            clear BK558
            clear BK559
            clear BK564
            clear BK569
            clear BK570
            clear HB
            have BK558 := n0_
            have BK559 := n1_
            have BK564 := n2_
            have BK569 := n3_
            have BK570 := n4_
            have HB := n5_
            clear n0_ n1_ n2_ n3_ n4_ n5_
            (try clear hb)
            (try clear hb2)
            (try clear hk)
            (try clear hi)
            refine hK.out _ _ ⟨(blk_cell BK570.out 0).trans rfl, (blk_cell BK570.out 1).trans rfl, (blk_cell BK570.out 2).trans rfl, (blk_cell BK570.out 3).trans rfl, (blk_cell BK564.out 0).trans rfl, (blk_cell BK564.out 1).trans rfl, (blk_cell BK564.out 2).trans rfl, (blk_cell BK564.out 3).trans rfl, (blk_cell BK569.out 0).trans rfl, (blk_cell BK569.out 1).trans rfl, (blk_cell BK569.out 2).trans rfl, (blk_cell BK569.out 3).trans rfl⟩ (fun hHeld => ?_)
            clear hK K
            refine norm_ (a' := ?_) ?_ ?_
            rotate_left
            · show Act.put _ (some 56) _ = _
              simp only [Act.put, List.setIfInBounds_toArray, List.set_cons_zero, List.set_cons_succ, i64_w, i32_w]
              rfl
            refine one_ (i := 18) (N := some 59) #[true, true, true, true, true, true, true, true, true, true, true, true, true, true, true, true, true, true, true, false, false, false, false, false, false, false, false, false, false, false, false, false] rfl rfl (one_of HT_.out (by kernel_rfl)) (by decide) (fun K hK => ?_)
            refine goes_ Tryd.func46 (by kernel_rfl) rfl #[.agg #[.int .i64 t560, .int .i64 t561, .string t562, .bool t563], .agg #[.int .i64 t565, .int .i64 t566, .string t567, .bool t568]] (by rfl) rfl rfl (by (try simp only [List.map_toArray, List.map_cons, List.map_nil]); first | done | rfl | (simp only [List.length_drop, List.length_take]; rfl)) ?_
            with_reducible refine (stileref01_Order.calls k t560 t561 t562 t563 t565 t566 t567 t568 t580 _ A16.out).mono ?_
            rintro e w54 ⟨rfl, hb⟩
            refine ⟨_, rfl, ?_⟩
            have n0_ := Aside0.mk (blk_below (g := gb558) (o := .cells #[.int .i64 a0_0, .int .i64 a0_1, .string a0_2, .bool a0_3] 25 (0, 0)) (by (with_reducible repeat (first | refine blk_drewN ?_ _ | refine blk_drew ?_ | refine blk_alloc ?_ _)); exact BK558.out) hb)
            have n1_ := Aside0.mk (blk_below (g := gb559) (o := .cells #[.int .i64 a1_0, .int .i64 a1_1, .string a1_2, .bool a1_3] 25 (0, 0)) (by (with_reducible repeat (first | refine blk_drewN ?_ _ | refine blk_drew ?_ | refine blk_alloc ?_ _)); exact BK559.out) hb)
            have n2_ := Aside0.mk (blk_below (g := gb564) (o := .cells #[.int .i64 t560, .int .i64 t561, .string t562, .bool t563] 28 (0, 0)) (by (with_reducible repeat (first | refine blk_drewN ?_ _ | refine blk_drew ?_ | refine blk_alloc ?_ _)); exact BK564.out) hb)
            have n3_ := Aside0.mk (blk_below (g := gb569) (o := .cells #[.int .i64 t565, .int .i64 t566, .string t567, .bool t568] 28 (0, 0)) (by (with_reducible repeat (first | refine blk_drewN ?_ _ | refine blk_drew ?_ | refine blk_alloc ?_ _)); exact BK569.out) hb)
            have n4_ := Aside0.mk (blk_below (g := gb570) (o := .cells #[.int .i64 a0_0, .int .i64 a0_1, .string a0_2, .bool a0_3] 28 (0, 0)) (by (with_reducible repeat (first | refine blk_drewN ?_ _ | refine blk_drew ?_ | refine blk_alloc ?_ _)); exact BK570.out) hb)
            have n5_ := Aside0.mk (below_step (by repeat (first | (with_reducible first | exact HB.out | apply below_alloc | apply pw_below_drewN | apply below_drew1 | refine below_set ?_ GE558.out | refine below_set ?_ GE559.out | refine below_set ?_ GE564.out | refine below_set ?_ GE569.out | refine below_set ?_ GE570.out) | exact HB.out)) hb)
            clear BK558
            clear BK559
            clear BK564
            clear BK569
            clear BK570
            clear HB
            have BK558 := n0_
            have BK559 := n1_
            have BK564 := n2_
            have BK569 := n3_
            have BK570 := n4_
            have HB := n5_
            clear n0_ n1_ n2_ n3_ n4_ n5_
            (try clear hb)
            (try clear hb2)
            (try clear hk)
            (try clear hi)
            refine hK.out _ _ ⟨(blk_cell BK570.out 0).trans rfl, (blk_cell BK570.out 1).trans rfl, (blk_cell BK570.out 2).trans rfl, (blk_cell BK570.out 3).trans rfl, (blk_cell BK564.out 0).trans rfl, (blk_cell BK564.out 1).trans rfl, (blk_cell BK564.out 2).trans rfl, (blk_cell BK564.out 3).trans rfl, (blk_cell BK569.out 0).trans rfl, (blk_cell BK569.out 1).trans rfl, (blk_cell BK569.out 2).trans rfl, (blk_cell BK569.out 3).trans rfl⟩ (fun hHeld => ?_)
            clear hK K
            refine norm_ (a' := ?_) ?_ ?_
            rotate_left
            · show Act.put _ (some 59) _ = _
              simp only [Act.put, List.setIfInBounds_toArray, List.set_cons_zero, List.set_cons_succ, i64_w, i32_w]
              rfl
            refine pure_ (i := 19) (N := some 60) (v := ?_) (a' := ?_) #[true, true, true, true, true, true, true, true, true, true, true, true, true, true, true, true, true, true, true, true, false, false, false, false, false, false, false, false, false, false, false, false] rfl rfl (any_of HT_.out (by kernel_rfl)) (fun _ _ _ h => h) (Or.inl ⟨by rfl, ?_⟩) ?_ ?_
            rotate_left
            · intro w'
              go_simp
              with_reducible rfl
            rotate_left
            · simp only [Act.put, List.setIfInBounds_toArray, List.set_cons_zero, List.set_cons_succ, i64_w, i32_w]
              rfl
            refine pure_ (i := 20) (N := some 61) (v := ?_) (a' := ?_) #[true, true, true, true, true, true, true, true, true, true, true, true, true, true, true, true, true, true, true, true, true, false, false, false, false, false, false, false, false, false, false, false] rfl rfl (any_of HT_.out (by kernel_rfl)) (fun _ _ _ h => h) (Or.inl ⟨by rfl, ?_⟩) ?_ ?_
            rotate_left
            · intro w'
              go_simp
              with_reducible rfl
            rotate_left
            · simp only [Act.put, List.setIfInBounds_toArray, List.set_cons_zero, List.set_cons_succ, i64_w, i32_w]
              rfl
            refine pure_ (i := 21) (N := some 62) (v := ?_) (a' := ?_) #[true, true, true, true, true, true, true, true, true, true, true, true, true, true, true, true, true, true, true, true, true, true, false, false, false, false, false, false, false, false, false, false] rfl rfl (any_of HT_.out (by kernel_rfl)) (fun _ _ _ h => h) (Or.inl ⟨by rfl, ?_⟩) ?_ ?_
            rotate_left
            · intro w'
              go_simp
              with_reducible rfl
            rotate_left
            · simp only [Act.put, List.setIfInBounds_toArray, List.set_cons_zero, List.set_cons_succ, i64_w, i32_w]
              rfl
            refine pure_ (i := 22) (N := some 63) (v := ?_) (a' := ?_) #[true, true, true, true, true, true, true, true, true, true, true, true, true, true, true, true, true, true, true, true, true, true, true, false, false, false, false, false, false, false, false, false] rfl rfl (any_of HT_.out (by kernel_rfl)) (fun _ _ _ h => h) (Or.inl ⟨by rfl, ?_⟩) ?_ ?_
            rotate_left
            · intro w'
              go_simp
              with_reducible rfl
            rotate_left
            · simp only [Act.put, List.setIfInBounds_toArray, List.set_cons_zero, List.set_cons_succ, i64_w, i32_w]
              rfl
            refine pure_ (i := 23) (N := some 64) (v := ?_) (a' := ?_) #[true, true, true, true, true, true, true, true, true, true, true, true, true, true, true, true, true, true, true, true, true, true, true, true, false, false, false, false, false, false, false, false] rfl rfl (any_of HT_.out (by kernel_rfl)) (fun _ _ _ h => h) (Or.inl ⟨by rfl, ?_⟩) ?_ ?_
            rotate_left
            · intro w'
              go_simp
              with_reducible rfl
            rotate_left
            · simp only [Act.put, List.setIfInBounds_toArray, List.set_cons_zero, List.set_cons_succ, i64_w, i32_w]
              rfl
            refine pure_ (i := 24) (N := some 65) (v := ?_) (a' := ?_) #[true, true, true, true, true, true, true, true, true, true, true, true, true, true, true, true, true, true, true, true, true, true, true, true, true, false, false, false, false, false, false, false] rfl rfl (any_of HT_.out (by kernel_rfl)) (fun _ _ _ h => h) (Or.inl ⟨by rfl, ?_⟩) ?_ ?_
            rotate_left
            · intro w'
              go_simp
              with_reducible rfl
            rotate_left
            · simp only [Act.put, List.setIfInBounds_toArray, List.set_cons_zero, List.set_cons_succ, i64_w, i32_w]
              rfl
            refine pure_ (i := 25) (N := some 66) (v := ?_) (a' := ?_) #[true, true, true, true, true, true, true, true, true, true, true, true, true, true, true, true, true, true, true, true, true, true, true, true, true, true, false, false, false, false, false, false] rfl rfl (any_of HT_.out (by kernel_rfl)) (fun _ _ _ h => h) (Or.inl ⟨by rfl, ?_⟩) ?_ ?_
            rotate_left
            · intro w'
              go_simp
              with_reducible rfl
            rotate_left
            · simp only [Act.put, List.setIfInBounds_toArray, List.set_cons_zero, List.set_cons_succ, i64_w, i32_w]
              rfl
            refine pure_ (i := 26) (N := some 67) (v := ?_) (a' := ?_) #[true, true, true, true, true, true, true, true, true, true, true, true, true, true, true, true, true, true, true, true, true, true, true, true, true, true, true, false, false, false, false, false] rfl rfl (any_of HT_.out (by kernel_rfl)) (fun _ _ _ h => h) (Or.inl ⟨by rfl, ?_⟩) ?_ ?_
            rotate_left
            · intro w'
              go_simp
              with_reducible rfl
            rotate_left
            · simp only [Act.put, List.setIfInBounds_toArray, List.set_cons_zero, List.set_cons_succ, i64_w, i32_w]
              rfl
            refine pure_ (i := 27) (N := some 68) (v := ?_) (a' := ?_) #[true, true, true, true, true, true, true, true, true, true, true, true, true, true, true, true, true, true, true, true, true, true, true, true, true, true, true, true, false, false, false, false] rfl rfl (any_of HT_.out (by kernel_rfl)) (fun _ _ _ h => h) (Or.inl ⟨by rfl, ?_⟩) ?_ ?_
            rotate_left
            · intro w'
              go_simp
              with_reducible rfl
            rotate_left
            · simp only [Act.put, List.setIfInBounds_toArray, List.set_cons_zero, List.set_cons_succ, i64_w, i32_w]
              rfl
            refine pure_ (i := 28) (N := some 69) (v := ?_) (a' := ?_) #[true, true, true, true, true, true, true, true, true, true, true, true, true, true, true, true, true, true, true, true, true, true, true, true, true, true, true, true, true, false, false, false] rfl rfl (any_of HT_.out (by kernel_rfl)) (fun _ _ _ h => h) (Or.inl ⟨by rfl, ?_⟩) ?_ ?_
            rotate_left
            · intro w'
              go_simp
              with_reducible rfl
            rotate_left
            · simp only [Act.put, List.setIfInBounds_toArray, List.set_cons_zero, List.set_cons_succ, i64_w, i32_w]
              rfl
            refine pure_ (i := 29) (N := some 70) (v := ?_) (a' := ?_) #[true, true, true, true, true, true, true, true, true, true, true, true, true, true, true, true, true, true, true, true, true, true, true, true, true, true, true, true, true, true, false, false] rfl rfl (any_of HT_.out (by kernel_rfl)) (fun _ _ _ h => h) (Or.inl ⟨by rfl, ?_⟩) ?_ ?_
            rotate_left
            · intro w'
              go_simp
              with_reducible rfl
            rotate_left
            · simp only [Act.put, List.setIfInBounds_toArray, List.set_cons_zero, List.set_cons_succ, i64_w, i32_w]
              rfl
            refine pure_ (i := 30) (N := some 71) (v := ?_) (a' := ?_) #[true, true, true, true, true, true, true, true, true, true, true, true, true, true, true, true, true, true, true, true, true, true, true, true, true, true, true, true, true, true, true, false] rfl rfl (any_of HT_.out (by kernel_rfl)) (fun _ _ _ h => h) (Or.inl ⟨by rfl, ?_⟩) ?_ ?_
            rotate_left
            · intro w'
              go_simp
              with_reducible rfl
            rotate_left
            · simp only [Act.put, List.setIfInBounds_toArray, List.set_cons_zero, List.set_cons_succ, i64_w, i32_w]
              rfl
            refine pure_ (i := 31) (N := some 6) (v := ?_) (a' := ?_) #[true, true, true, true, true, true, true, true, true, true, true, true, true, true, true, true, true, true, true, true, true, true, true, true, true, true, true, true, true, true, true, true] rfl rfl (any_of HT_.out (by kernel_rfl)) (fun _ _ _ h => h) (Or.inl ⟨by rfl, ?_⟩) ?_ ?_
            rotate_left
            · intro w'
              go_simp
              with_reducible rfl
            rotate_left
            · simp only [Act.put, List.setIfInBounds_toArray, List.set_cons_zero, List.set_cons_succ, i64_w, i32_w]
              rfl
            refine done_ (done_of HT_.out (by kernel_rfl)) ?_
            try go_wp2
            go_ret
            exact ⟨by first | rfl | (simp [errW_none, errW_some] <;> rfl) | (simp [*, errW_none, errW_some] <;> rfl), by repeat (first | (with_reducible first | exact HB.out | apply below_alloc | apply pw_below_drewN | apply below_drew1 | refine below_set ?_ GE558.out | refine below_set ?_ GE559.out | refine below_set ?_ GE564.out | refine below_set ?_ GE569.out | refine below_set ?_ GE570.out) | exact HB.out)⟩
          · rw [if_neg c18] at H
            exact absurd H (by simp)
        · rw [if_neg c17] at H
          exact absurd H (by simp)
      · replace c14 := Bool.eq_false_iff.mpr c14
        subst c14
        have H1 : (none) = some r := by rw [if_neg (show ¬ (false = true) by decide)] at H; exact H
        clear H
        have H := H1
        clear H1
        exact absurd H (by simp)
    · rw [if_neg c12] at H
      exact absurd H (by simp)
  · replace c9 := Bool.eq_false_iff.mpr c9
    subst c9
    have H1 : (none) = some r := by rw [if_neg (show ¬ (false = true) by decide)] at H; exact H
    clear H
    have H := H1
    clear H1
    exact absurd H (by simp)

end Go.Proofs.YtlmkhpgnkpgbdaaDoor.PVALUE

namespace Go.Proofs.YtlmkhpgnkpgbdaaDoor
open Go.RowKit Go.Proofs.YtlmkhpgnkpgbdaaDoor.PVALUE Go.Proofs.YtlmkhpgnkpgbdaaDoorW.PrintWords Go.Proofs.YtlmkhpgnkpgbdaaDoorW.PrintLast
set_option linter.unusedVariables false
set_option linter.unusedSimpArgs false
namespace Vl
theorem pick_ok (a n : Int) (hn : 0 < n) (w : (Lit.int .i64 a).wf = true) : ∃ t, stilelaw01_pick.f a n = some t ∧ 0 ≤ t ∧ t < n := by
  have w : -9223372036854775808 ≤ a ∧ a ≤ 9223372036854775807 := by have hz := w; simp only [Lit.wf, Bool.and_eq_true, decide_eq_true_eq] at hz; exact hz
  unfold stilelaw01_pick.f
  have e1 : ¬ n = 0 := by omega
  by_cases h : a < 0
  · rw [if_pos h, if_neg e1]
    have h1 : wrap64 (-(wrap64 (a + 1))) = -(a + 1) := by unfold wrap64; omega
    rw [h1, Int.tmod_eq_emod_of_nonneg (by omega)]
    exact ⟨_, rfl, Int.emod_nonneg _ e1, Int.emod_lt_of_pos _ hn⟩
  · rw [if_neg h, if_neg e1, Int.tmod_eq_emod_of_nonneg (by omega)]
    exact ⟨_, rfl, Int.emod_nonneg _ e1, Int.emod_lt_of_pos _ hn⟩
theorem alive_ok : stilelaw01_alive.f 40 = some true := by decide +kernel
end Vl
end Go.Proofs.YtlmkhpgnkpgbdaaDoor

namespace Go.Proofs.YtlmkhpgnkpgbdaaDoor
open Go.RowKit Go.Proofs.YtlmkhpgnkpgbdaaDoor.PVALUE Go.Proofs.YtlmkhpgnkpgbdaaDoorW.PrintWords Go.Proofs.YtlmkhpgnkpgbdaaDoorW.PrintLast
set_option linter.unusedVariables false
set_option linter.unusedSimpArgs false
namespace Vl
/-- the values that are right -/
inductive Rv where
  | null
  | num (n : Int)
  | text (s : ByteArray)
  | bool (b : Bool)
abbrev Em : ByteArray := ⟨#[]⟩
def Rv.k : Rv → Int
  | .null => 0
  | .num _ => 1
  | .text _ => 2
  | .bool _ => 3
def Rv.n : Rv → Int
  | .num n => n
  | _ => 0
def Rv.s : Rv → ByteArray
  | .text s => s
  | _ => Em
def Rv.b : Rv → Bool
  | .bool b => b
  | _ => false
def Rv.ok : Rv → Prop
  | .text s => s.size ≤ 140737488351232
  | .num n => -9223372036854775808 ≤ n ∧ n ≤ 9223372036854775807
  | _ => True
theorem wf64 {a : Int} (w : (Lit.int .i64 a).wf = true) : -9223372036854775808 ≤ a ∧ a ≤ 9223372036854775807 := by
  have hz := w; simp only [Lit.wf, Bool.and_eq_true, decide_eq_true_eq] at hz; exact hz
theorem raw_ok (k n : Int) (s : ByteArray) (b : Bool) (hk : (Lit.int .i64 k).wf = true) (hn : (Lit.int .i64 n).wf = true) (hs : s.size ≤ 140737488351232) :
    ∃ x : Rv, stilelaw01_Raw_Value.f k n s b = some (x.k, x.n, x.s, x.b) ∧ x.ok := by
  obtain ⟨t, e, h0, h1⟩ := pick_ok k 4 (by decide) hk
  unfold stilelaw01_Raw_Value.f
  rw [e]
  simp only [Option.bind_some, stileref01_Num.f, stileref01_Text.f]
  have h4 : t = 0 ∨ t = 1 ∨ t = 2 ∨ t = 3 := by omega
  rcases h4 with rfl | rfl | rfl | rfl
  · exact ⟨.null, rfl, trivial⟩
  · exact ⟨.num n, rfl, wf64 hn⟩
  · exact ⟨.text s, rfl, hs⟩
  · exact ⟨.bool b, rfl, trivial⟩
def cmpZ (a b : Int) : Int := if a < b then -1 else if b < a then 1 else 0
def stand : Rv → Rv → Int
  | .num a, .num b => cmpZ a b
  | .text a, .text b => Lib.compareBytes (trimR a 32).data.toList (trimR b 32).data.toList
  | .bool a, .bool b => if (a == b) = true then 0 else if b = true then -1 else 1
  | x, y => cmpZ x.k y.k
theorem kind_cmp (a b : Int) : api_Kind_48.f a b = some (cmpZ a b) := by
  simp only [api_Kind_48.f, api_Kind_79.f, Option.bind_some, bne_self_eq_false, Bool.false_eq_true, if_false, cmpZ]
  by_cases h1 : a < b
  · simp [h1]
  · by_cases h2 : b < a <;> simp [h1, h2]
theorem int_cmp (a b : Int) : cmp_Compare_int64.f a b = some (cmpZ a b) := by
  simp only [cmp_Compare_int64.f, cmp_isNaN_int64.f, Option.bind_some, bne_self_eq_false, Bool.false_eq_true, if_false, cmpZ]
  by_cases h1 : a < b
  · simp [h1]
  · by_cases h2 : b < a <;> simp [h1, h2]
theorem words_f (s : ByteArray) (h : s.size ≤ 140737488351232) : value_words.f s = some (trimR s 32) := if_pos h
theorem order_f (x y : Rv) (hx : x.ok) (hy : y.ok) : value_Order.f x.k x.n x.s x.b y.k y.n y.s y.b = some (stand x y) := by
  unfold value_Order.f
  rw [kind_cmp]
  cases x <;> cases y <;> simp only [Rv.k, Rv.n, Rv.s, Rv.b, stand, Option.bind_some] <;> try rfl
  · rw [int_cmp]; simp [cmpZ]
  · rename_i a b
    have ha : a.size ≤ 140737488351232 := hx
    have hb : b.size ≤ 140737488351232 := hy
    rw [words_f a ha, words_f b hb]
    simp [cmpZ, strings_Compare.f]
  · simp only [cmpZ]
    rename_i a b
    cases a <;> cases b <;> rfl
theorem cmpZ_self (a : Int) : cmpZ a a = 0 := by simp [cmpZ]
theorem cmpZ_neg (a b : Int) : cmpZ a b = - cmpZ b a := by unfold cmpZ; split <;> split <;> (try split) <;> omega
theorem cmpZ_rng (a b : Int) : cmpZ a b = -1 ∨ cmpZ a b = 0 ∨ cmpZ a b = 1 := by unfold cmpZ; split <;> (try split) <;> omega
theorem cmpZ_eq {a b : Int} (h : cmpZ a b = 0) : a = b := by unfold cmpZ at h; split at h <;> (try split at h) <;> omega
theorem cmpZ_le {a b : Int} (h : cmpZ a b ≤ 0) : a ≤ b := by unfold cmpZ at h; split at h <;> (try split at h) <;> omega
theorem cmpZ_of_le {a b : Int} (h : a ≤ b) : cmpZ a b ≤ 0 := by unfold cmpZ; split <;> (try split) <;> omega
open Lib (compareBytes)
theorem cb_self : ∀ a, compareBytes a a = 0
  | [] => rfl
  | a :: p => by simp [compareBytes, cb_self p]
theorem cb_rng : ∀ a b, compareBytes a b = -1 ∨ compareBytes a b = 0 ∨ compareBytes a b = 1
  | [], [] => .inr (.inl rfl)
  | [], _ :: _ => .inl rfl
  | _ :: _, [] => .inr (.inr rfl)
  | a :: p, b :: q => by
    rw [compareBytes]
    split
    · exact .inl rfl
    · split
      · exact .inr (.inr rfl)
      · exact cb_rng p q
theorem cb_neg : ∀ a b, compareBytes a b = - compareBytes b a
  | [], [] => rfl
  | [], _ :: _ => rfl
  | _ :: _, [] => rfl
  | a :: p, b :: q => by
    rw [compareBytes, compareBytes]
    have h := cb_neg p q
    by_cases h1 : a < b
    · have h2 : ¬ b < a := fun h => by rw [UInt8.lt_iff_toNat_lt] at h h1; omega
      rw [if_pos h1, if_neg h2, if_pos h1]
    · by_cases h2 : b < a
      · rw [if_neg h1, if_pos h2, if_pos h2]; rfl
      · rw [if_neg h1, if_neg h2, if_neg h2, if_neg h1]; exact h
theorem cb_eq : ∀ {a b}, compareBytes a b = 0 → a = b
  | [], [], _ => rfl
  | [], _ :: _, h => by simp [compareBytes] at h
  | _ :: _, [], h => by simp [compareBytes] at h
  | a :: p, b :: q, h => by
    rw [compareBytes] at h
    by_cases h1 : a < b
    · rw [if_pos h1] at h; omega
    · by_cases h2 : b < a
      · rw [if_neg h1, if_pos h2] at h; omega
      · rw [if_neg h1, if_neg h2] at h
        rw [cb_eq h, UInt8.le_antisymm (UInt8.not_lt.1 h2) (UInt8.not_lt.1 h1)]
theorem cb_trans : ∀ {a b c}, compareBytes a b ≤ 0 → compareBytes b c ≤ 0 → compareBytes a c ≤ 0
  | [], _, [], _, _ => Int.le_refl 0
  | [], _, _ :: _, _, _ => by simp [compareBytes]
  | _ :: _, [], _, h, _ => by simp [compareBytes] at h
  | _ :: _, _ :: _, [], _, h => by simp [compareBytes] at h
  | a :: p, b :: q, c :: r, h, k => by
    rw [compareBytes] at h k ⊢
    by_cases h1 : a < b
    · rw [if_pos h1] at h
      by_cases k1 : b < c
      · have : a < c := by rw [UInt8.lt_iff_toNat_lt] at *; omega
        rw [if_pos this]; omega
      · by_cases k2 : c < b
        · rw [if_neg k1, if_pos k2] at k; omega
        · have e : b = c := UInt8.le_antisymm (UInt8.not_lt.1 k2) (UInt8.not_lt.1 k1)
          subst e
          rw [if_pos h1]; omega
    · by_cases h2 : b < a
      · rw [if_neg h1, if_pos h2] at h; omega
      · have e : a = b := UInt8.le_antisymm (UInt8.not_lt.1 h2) (UInt8.not_lt.1 h1)
        subst e
        rw [if_neg h1, if_neg h2] at h
        by_cases k1 : a < c
        · rw [if_pos k1]; omega
        · by_cases k2 : c < a
          · rw [if_neg k1, if_pos k2] at k; omega
          · rw [if_neg k1, if_neg k2] at k ⊢
            exact cb_trans h k
theorem stand_self (x : Rv) : stand x x = 0 := by
  cases x <;> simp only [stand, cmpZ_self, cb_self]
  simp
theorem stand_neg (x y : Rv) : stand x y = - stand y x := by
  cases x <;> cases y <;> simp only [stand] <;> first | exact cmpZ_neg _ _ | exact cb_neg _ _ | skip
  rename_i a b
  cases a <;> cases b <;> rfl
theorem stand_rng (x y : Rv) : stand x y = -1 ∨ stand x y = 0 ∨ stand x y = 1 := by
  cases x <;> cases y <;> simp only [stand] <;> first | exact cmpZ_rng _ _ | exact cb_rng _ _ | skip
  rename_i a b
  cases a <;> cases b <;> simp
theorem stand_kind : ∀ x y : Rv, stand x y ≤ 0 → x.k ≤ y.k := by
  intro x y h
  cases x <;> cases y <;> simp only [Rv.k] <;> first | decide | (exfalso; revert h; simp [stand, cmpZ, Rv.k])
theorem stand_low : ∀ x y : Rv, x.k < y.k → stand x y = -1 := by
  intro x y h
  cases x <;> cases y <;> simp only [Rv.k] at h <;> first | (exfalso; omega) | rfl
theorem bool_trans : ∀ a b c : Bool, stand (.bool a) (.bool b) ≤ 0 → stand (.bool b) (.bool c) ≤ 0 → stand (.bool a) (.bool c) ≤ 0 := by decide
theorem stand_trans (x y z : Rv) (h : stand x y ≤ 0) (k : stand y z ≤ 0) : stand x z ≤ 0 := by
  have h1 := stand_kind x y h
  have k1 := stand_kind y z k
  by_cases e : x.k < z.k
  · rw [stand_low x z e]; decide
  · have e1 : x.k = y.k := by omega
    have e2 : y.k = z.k := by omega
    clear h1 k1 e
    match x, y, z, e1, e2 with
    | .null, .null, .null, _, _ => decide
    | .num a, .num b, .num c, _, _ => exact cmpZ_of_le (Int.le_trans (cmpZ_le h) (cmpZ_le k))
    | .text a, .text b, .text c, _, _ => exact cb_trans h k
    | .bool a, .bool b, .bool c, _, _ => exact bool_trans a b c h k
end Vl
end Go.Proofs.YtlmkhpgnkpgbdaaDoor

namespace Go.Proofs.YtlmkhpgnkpgbdaaDoor
open Go.RowKit Go.Proofs.YtlmkhpgnkpgbdaaDoor.PVALUE Go.Proofs.YtlmkhpgnkpgbdaaDoorW.PrintWords Go.Proofs.YtlmkhpgnkpgbdaaDoorW.PrintLast
set_option linter.unusedVariables false
set_option linter.unusedSimpArgs false
namespace Vl
abbrev doneZ : ByteArray := ⟨#[48, 48, 48, 48, 48]⟩
abbrev misZ : ByteArray := ⟨#[52, 50, 56, 48, 52]⟩
def tv (x y : Rv) (b : Bool) : Int := if x.k = 0 ∨ y.k = 0 ∨ x.k ≠ y.k then 1 else if b = true then 2 else 0
def ts (x y : Rv) : ByteArray := if x.k = 0 ∨ y.k = 0 ∨ x.k = y.k then doneZ else misZ
theorem test_f (k : Nat) (op : ByteArray) (x y : Rv) (hx : x.ok) (hy : y.ok) (b : Bool) (h : value_holds.f op (stand x y) = some (b, true)) :
    value_Test.f (k + 1) op x.k x.n x.s x.b y.k y.n y.s y.b = some (tv x y b, ts x y) := by
  unfold value_Test.f
  rw [order_f x y hx hy]
  simp only [Option.bind_some]
  rw [h]
  simp only [Option.bind_some, if_true]
  unfold tv ts
  by_cases h0 : x.k = 0
  · rw [if_pos h0, if_pos (.inl h0), if_pos (.inl h0)]; rfl
  · rw [if_neg h0]
    by_cases h1 : y.k = 0
    · rw [if_pos (.inr (.inl h1)), if_pos (.inr (.inl h1)), beq_iff_eq.2 h1]; rfl
    · rw [beq_eq_false_iff_ne.2 h1]
      simp only [value_Test.j0, Bool.false_eq_true, if_false]
      by_cases h2 : x.k = y.k
      · rw [if_pos h2, if_neg (show ¬ (x.k = 0 ∨ y.k = 0 ∨ x.k ≠ y.k) by simp only [not_or]; exact ⟨h0, h1, fun h => h h2⟩), if_pos (show x.k = 0 ∨ y.k = 0 ∨ x.k = y.k from .inr (.inr h2))]
        cases b <;> rfl
      · rw [if_neg h2, if_pos (show x.k = 0 ∨ y.k = 0 ∨ x.k ≠ y.k from .inr (.inr h2)), if_neg (show ¬ (x.k = 0 ∨ y.k = 0 ∨ x.k = y.k) by simp only [not_or]; exact ⟨h0, h1, h2⟩)]
end Vl
end Go.Proofs.YtlmkhpgnkpgbdaaDoor

namespace Go.Proofs.YtlmkhpgnkpgbdaaDoor
open Go.RowKit Go.Proofs.YtlmkhpgnkpgbdaaDoor.PVALUE Go.Proofs.YtlmkhpgnkpgbdaaDoorW.PrintWords Go.Proofs.YtlmkhpgnkpgbdaaDoorW.PrintLast
set_option linter.unusedVariables false
set_option linter.unusedSimpArgs false
namespace Vl
theorem alive_all (k : Nat) (hk : 40 ≤ k) : stilelaw01_alive.f k = some true := at_rounds (g := fun k => stilelaw01_alive.f k) stilelaw01_alive.mono hk alive_ok
theorem bt_of (s : ByteArray) (n : Nat) (h : n < s.size) : bt s (n : Int) = (s[n].toNat : Int) := by simp [bt, h]
theorem words_l (s : ByteArray) (hs : s.size ≤ 140737488351232) : ∀ n k : Nat, n ≤ s.size → 2 * n + 2 ≤ k → stileref01_Words.l0 k s (n : Int) = some (s.extract 0 (trimN s 32 n)) := by
  intro n
  induction n with
  | zero =>
    intro k _ hk
    obtain ⟨k, rfl⟩ : ∃ m, k = m + 2 := ⟨k - 2, by omega⟩
    simp only [stileref01_Words.l0]
    rw [if_neg (by omega)]
    simp only [stileref01_Words.j1, Bool.false_eq_true, if_false]
    rw [if_pos (by omega), if_pos (by omega)]
    rfl
  | succ n ih =>
    intro k hn hk
    obtain ⟨k, rfl⟩ : ∃ m, k = m + 2 := ⟨k - 2, by omega⟩
    have e : wrap64 (((n + 1 : Nat) : Int) - 1) = (n : Int) := by unfold wrap64; omega
    have h1 : n < s.size := by omega
    simp only [stileref01_Words.l0]
    rw [if_pos (by omega), e, if_pos (by omega), if_pos (by omega)]
    simp only [stileref01_Words.j1]
    rw [e, bt_of s n h1]
    by_cases hc : ((s[n].toNat : Int)) = 32
    · rw [if_pos (beq_iff_eq.2 hc), ih k (by omega) (by omega)]
      simp [trimN, h1, hc]
    · rw [if_neg (by simpa using hc), if_pos (by omega), if_pos (by omega)]
      simp [trimN, h1, hc]
theorem rwords_f (s : ByteArray) (k : Nat) (hs : s.size ≤ 140737488351232) (hk : 2 * s.size + 2 ≤ k) : stileref01_Words.f k s = some (trimR s 32) := by
  unfold stileref01_Words.f
  rw [words_l s hs s.size k (Nat.le_refl _) hk]
  rfl
def thrZ (l s : Bool) : Int := if l = true then -1 else if s = true then 0 else 1
theorem three_f (l s : Bool) : stileref01_three.f l s = some (thrZ l s) := by cases l <;> cases s <;> rfl
theorem thr_cmp (a b : Int) : thrZ (decide (a < b)) (a == b) = cmpZ a b := by
  unfold thrZ cmpZ
  by_cases h1 : a < b
  · simp [h1]
  · by_cases h2 : b < a
    · have : ¬ a = b := by omega
      simp [h1, h2, this]
    · have : a = b := by omega
      simp [this]
theorem thr_cb : ∀ (x y : List UInt8), thrZ (Op.bytesLess x y) (x == y) = Lib.compareBytes x y
  | [], [] => rfl
  | [], _ :: _ => by simp [Op.bytesLess, Lib.compareBytes, thrZ]
  | _ :: _, [] => by simp [Op.bytesLess, Lib.compareBytes, thrZ]
  | a :: x, b :: y => by
    have ih := thr_cb x y
    rw [Op.bytesLess, Lib.compareBytes]
    by_cases h1 : a < b
    · simp [h1, thrZ]
    · by_cases h2 : b < a
      · have h3 : ¬ a = b := fun h => by subst h; exact h1 h2
        simp [h1, h2, h3, thrZ]
      · have h3 : a = b := UInt8.le_antisymm (UInt8.not_lt.1 h2) (UInt8.not_lt.1 h1)
        subst h3
        simp [h1, ← ih, thrZ]
def Rv.len : Rv → Nat
  | .text s => 2 * s.size + 2
  | _ => 0
theorem rorder_f (x y : Rv) (k : Nat) (hx : x.ok) (hy : y.ok) (kx : x.len ≤ k) (ky : y.len ≤ k) : stileref01_Order.f k x.k x.n x.s x.b y.k y.n y.s y.b = some (stand x y) := by
  unfold stileref01_Order.f
  cases x <;> cases y <;> simp only [Rv.k, Rv.n, Rv.s, Rv.b, stand, three_f, Option.bind_some] <;> try rfl
  · rename_i a b
    show some (thrZ (decide (a < b)) (a == b)) = some (cmpZ a b)
    rw [thr_cmp]
  · rename_i a b
    have ha : a.size ≤ 140737488351232 := hx
    have hb : b.size ≤ 140737488351232 := hy
    have ka : 2 * a.size + 2 ≤ k := kx
    have kb : 2 * b.size + 2 ≤ k := ky
    rw [rwords_f a k ha ka, rwords_f b k hb kb]
    show some (thrZ (Op.bytesLess (trimR a 32).toList (trimR b 32).toList) ((trimR a 32).toList == (trimR b 32).toList)) = _
    rw [thr_cb, Lib.toList_data, Lib.toList_data]
  · rename_i a b
    cases a <;> cases b <;> rfl
theorem rj0_f (k : Nat) (b : Bool) (x y : Rv) : stileref01_Test.j0 (k + 2) b x.k x.n x.s x.b y.k y.n y.s y.b = some (tv x y b, ts x y) := by
  simp only [stileref01_Test.j0]
  unfold tv ts
  by_cases h0 : x.k = 0
  · rw [if_pos h0, if_pos (show x.k = 0 ∨ y.k = 0 ∨ x.k ≠ y.k from .inl h0), if_pos (show x.k = 0 ∨ y.k = 0 ∨ x.k = y.k from .inl h0)]; simp only [stileref01_Test.j1, if_true]
  · rw [if_neg h0]
    by_cases h1 : y.k = 0
    · rw [if_pos (show x.k = 0 ∨ y.k = 0 ∨ x.k ≠ y.k from .inr (.inl h1)), if_pos (show x.k = 0 ∨ y.k = 0 ∨ x.k = y.k from .inr (.inl h1)), beq_iff_eq.2 h1]; simp only [stileref01_Test.j1, if_true]
    · rw [beq_eq_false_iff_ne.2 h1]
      simp only [stileref01_Test.j1, Bool.false_eq_true, if_false]
      by_cases h2 : x.k = y.k
      · rw [if_pos h2, if_neg (show ¬ (x.k = 0 ∨ y.k = 0 ∨ x.k ≠ y.k) by simp only [not_or]; exact ⟨h0, h1, fun h => h h2⟩), if_pos (show x.k = 0 ∨ y.k = 0 ∨ x.k = y.k from .inr (.inr h2))]
        cases b <;> rfl
      · rw [if_neg h2, if_pos (show x.k = 0 ∨ y.k = 0 ∨ x.k ≠ y.k from .inr (.inr h2)), if_neg (show ¬ (x.k = 0 ∨ y.k = 0 ∨ x.k = y.k) by simp only [not_or]; exact ⟨h0, h1, h2⟩)]
theorem tests_f (k : Nat) (op : ByteArray) (x y : Rv) (hx : x.ok) (hy : y.ok) (kx : x.len ≤ k + 2) (ky : y.len ≤ k + 2) :
    ∃ t s, value_Test.f (k + 2) op x.k x.n x.s x.b y.k y.n y.s y.b = some (t, s) ∧ stileref01_Test.f (k + 2) op x.k x.n x.s x.b y.k y.n y.s y.b = some (t, s) := by
  have T := fun b h => test_f (k + 1) op x y hx hy b h
  have J := fun b => rj0_f k b x y
  unfold stileref01_Test.f
  rw [rorder_f x y _ hx hy kx ky]
  simp only [Option.bind_some]
  generalize hc : stand x y = c at *
  by_cases o1 : op.toList = [61]
  · rw [if_pos o1]
    exact ⟨_, _, T (c == 0) (by unfold value_holds.f; rw [if_pos o1]), J _⟩
  by_cases o2 : op.toList = [60, 62]
  · rw [if_neg o1, if_pos o2]
    exact ⟨_, _, T (c != 0) (by unfold value_holds.f; rw [if_neg o1, if_pos o2]), J _⟩
  by_cases o3 : op.toList = [60]
  · rw [if_neg o1, if_neg o2, if_pos o3]
    exact ⟨_, _, T (decide (c < 0)) (by unfold value_holds.f; rw [if_neg o1, if_neg o2, if_pos o3]), J _⟩
  by_cases o4 : op.toList = [60, 61]
  · rw [if_neg o1, if_neg o2, if_neg o3, if_pos o4]
    exact ⟨_, _, T (decide (c ≤ 0)) (by unfold value_holds.f; rw [if_neg o1, if_neg o2, if_neg o3, if_pos o4]), J _⟩
  by_cases o5 : op.toList = [62]
  · rw [if_neg o1, if_neg o2, if_neg o3, if_neg o4, if_pos o5]
    exact ⟨_, _, T (decide (c > 0)) (by unfold value_holds.f; rw [if_neg o1, if_neg o2, if_neg o3, if_neg o4, if_pos o5]), J _⟩
  by_cases o6 : op.toList = [62, 61]
  · rw [if_neg o1, if_neg o2, if_neg o3, if_neg o4, if_neg o5, if_pos o6]
    exact ⟨_, _, T (decide (c ≥ 0)) (by unfold value_holds.f; rw [if_neg o1, if_neg o2, if_neg o3, if_neg o4, if_neg o5, if_pos o6]), J _⟩
  · rw [if_neg o1, if_neg o2, if_neg o3, if_neg o4, if_neg o5, if_neg o6]
    refine ⟨1, _, ?_, rfl⟩
    unfold value_Test.f
    rw [order_f x y hx hy]
    simp only [Option.bind_some]
    unfold value_holds.f
    rw [if_neg o1, if_neg o2, if_neg o3, if_neg o4, if_neg o5, if_neg o6]
    rfl
theorem right_ok (x : Rv) : value_Right.f x.k x.n x.s x.b = some true := by
  cases x <;> simp [value_Right.f, rightF, Rv.k, Rv.n, Rv.s, Rv.b]
theorem rright_f (k n : Int) (s : ByteArray) (b : Bool) : stileref01_Right.f k n s b = some (rightF k n s b) := by
  unfold stileref01_Right.f rightF
  by_cases h0 : k = 0
  · subst h0; simp
  by_cases h1 : k = 1
  · subst h1; simp
  by_cases h2 : k = 2
  · subst h2; simp
  by_cases h3 : k = 3
  · subst h3; simp
  simp [h0, h1, h2, h3]
theorem valueOrders_walk (a0_0 a0_1 : Int) (a0_2 : ByteArray) (a0_3 : Bool) (a1_0 a1_1 : Int) (a1_2 : ByteArray) (a1_3 : Bool) (a2 : ByteArray) (W : World) (w00 : (Lit.int .i64 a0_0).wf = true) (w01 : (Lit.int .i64 a0_1).wf = true) (w02 : a0_2.size ≤ 140737488351232) (w10 : (Lit.int .i64 a1_0).wf = true) (w11 : (Lit.int .i64 a1_1).wf = true) (w12 : a1_2.size ≤ 140737488351232) (w2 : a2.size ≤ 140737488351232) :
    Calls Tryd.prog 11 #[.agg #[.int .i64 a0_0, .int .i64 a0_1, .string a0_2, .bool a0_3], .agg #[.int .i64 a1_0, .int .i64 a1_1, .string a1_2, .bool a1_3], .string a2] W fun e W' => e = .returned (.bool true) ∧ Below W.heap.size W W' := by
  obtain ⟨x, ex, hx⟩ := raw_ok a0_0 a0_1 a0_2 a0_3 w00 w01 w02
  obtain ⟨y, ey, hy⟩ := raw_ok a1_0 a1_1 a1_2 a1_3 w10 w11 w12
  obtain ⟨k, hk1, hk2, hk3⟩ : ∃ k, x.len ≤ k + 2 ∧ y.len ≤ k + 2 ∧ 40 ≤ k + 2 := ⟨x.len + y.len + 40, by omega, by omega, by omega⟩
  refine stilelaw01_ValueOrders.calls (k + 2) _ _ _ _ _ _ _ _ _ true W ?_
  obtain ⟨t, s, h1, h2⟩ := tests_f k a2 x y hx hy hk1 hk2
  unfold stilelaw01_ValueOrders.f
  rw [ex, ey]
  simp only [Option.bind_some]
  rw [h1, h2]
  simp only [Option.bind_some]
  rw [alive_all _ hk3, right_ok, order_f x y hx hy, rorder_f x y _ hx hy hk1 hk2, rright_f]
  simp [value_Right.f]
end Vl
end Go.Proofs.YtlmkhpgnkpgbdaaDoor

namespace Go.Proofs.YtlmkhpgnkpgbdaaDoor.valueOrders
open Go.ChangeShapes Go.WideShapes Go.ChangeAt Go.RowKit
open Go.ChangeMaps (open_string shut_string)
open Go.Joins Go.Deep
set_option linter.unusedVariables false
set_option linter.unusedSimpArgs false
set_option maxRecDepth 100000 in
theorem contract (H : Type) (enc : TypeId × Value → H) (W : World) (base : Nat) (args : Array Value) (ds gs : List (DataW H)) (before : List MemPlace)
    (hval0 : ∀ (j : Nat) t v, Tryd.f11.params[j]? = some t → args[j]? = some v → Value.okWide Tryd.prog W .any base t v)
    (hW : DataW.Whole enc Tryd.prog Tryd.f11.params.toList Rows.valueOrdersSpec.vars false W args.toList ds gs before)
    (hsz0 : (DataW.weightsEach Tryd.prog (Tryd.f11.params.toList ++ (OpenSpec.ofChange Rows.valueOrdersSpec).bare.plain.varTypes Tryd.prog) (ds ++ gs)).all (· ≤ reachBytes) = true) :
    Calls Tryd.prog 11 args W fun e W' => ∃ v, e = .returned v ∧ Rows.valueOrdersSpec.post enc Tryd.prog Tryd.f11 false true false false W args v W' := by
  have hval := hval0
  have hW' := hW
  obtain ⟨p, q, hA0, hV, rfl, hfz, hnd⟩ := hW
  have hA : DataW.TrodAll enc Tryd.prog W 0 (fun _ => true) true Tryd.f11.params.toList args.toList ds p := hA0
  have hsz := hsz0
  rw [Tryd.params11] at hA hval hsz
  obtain ⟨v0, vs0, d0, ds0, p0, q0, hargs, rfl, rfl, h0, r0⟩ := trodAll_cons hA
  obtain ⟨v1, vs1, d1, ds1, p1, q1, rfl, rfl, rfl, h1, r1⟩ := trodAll_cons r0
  obtain ⟨v2, vs2, d2, ds2, p2, q2, rfl, rfl, rfl, h2, r2⟩ := trodAll_cons r1
  obtain ⟨rfl, rfl, rfl⟩ := trodAll_nil r2
  obtain rfl : args = #[v0, v1, v2] := by cases args; simp_all
  obtain ⟨rfl, rfl⟩ := trodVars_none hV
  have k0 := h0
  have lt0 : ∀ x ∈ p0, x.block < W.heap.size := by obtain ⟨m, hm⟩ := k0; exact DataW.trod_lt m _ _ _ hm
  obtain ⟨c00, c01, c02, c03, y00, y01, y02, y03, m0, rfl, rfl, hp0, f00, f01, f02, f03⟩ := open_agg4 Tryd.underlying25 (by kernel_rfl) (by kernel_rfl) (hval 0 25 v0 rfl rfl) h0
  obtain ⟨s00, e00, z00, b00⟩ := DataW.trod_int Tryd.underlying3 f00
  obtain ⟨s01, e01, z01, b01⟩ := DataW.trod_int Tryd.underlying2 f01
  obtain ⟨s02, e02, z02, _⟩ := DataW.trod_string Tryd.underlying9 f02
  obtain ⟨s03, e03, z03⟩ := DataW.trod_bool Tryd.underlying4 f03
  simp only [List.cons.injEq, and_true] at e00 e01 e02 e03
  subst e00 e01 e02 e03
  have g0 := Vl.size_agg4 Tryd.underlying25 hsz (j := 0) rfl rfl
  have b02 : s02.size ≤ 140737488351232 := by
    have := g0 s02.data.toList.length (by rw [z02]; simp [DataW.weights])
    rw [Array.length_toList] at this
    exact this
  have k1 := h1
  have lt1 : ∀ x ∈ p1, x.block < W.heap.size := by obtain ⟨m, hm⟩ := k1; exact DataW.trod_lt m _ _ _ hm
  obtain ⟨c10, c11, c12, c13, y10, y11, y12, y13, m1, rfl, rfl, hp1, f10, f11, f12, f13⟩ := open_agg4 Tryd.underlying25 (by kernel_rfl) (by kernel_rfl) (hval 1 25 v1 rfl rfl) h1
  obtain ⟨s10, e10, z10, b10⟩ := DataW.trod_int Tryd.underlying3 f10
  obtain ⟨s11, e11, z11, b11⟩ := DataW.trod_int Tryd.underlying2 f11
  obtain ⟨s12, e12, z12, _⟩ := DataW.trod_string Tryd.underlying9 f12
  obtain ⟨s13, e13, z13⟩ := DataW.trod_bool Tryd.underlying4 f13
  simp only [List.cons.injEq, and_true] at e10 e11 e12 e13
  subst e10 e11 e12 e13
  have g1 := Vl.size_agg4 Tryd.underlying25 hsz (j := 1) rfl rfl
  have b12 : s12.size ≤ 140737488351232 := by
    have := g1 s12.data.toList.length (by rw [z12]; simp [DataW.weights])
    rw [Array.length_toList] at this
    exact this
  have k2 := h2
  have lt2 : ∀ x ∈ p2, x.block < W.heap.size := by obtain ⟨m, hm⟩ := k2; exact DataW.trod_lt m _ _ _ hm
  obtain ⟨a2, rfl, rfl, rfl, _⟩ := open_string Tryd.underlying9 (hval 2 9 v2 rfl rfl) h2
  have w2 : a2.size ≤ 140737488351232 := by
    have z := sized_string hsz (j := 2) (t := 9) rfl rfl
    rw [Array.length_toList] at z
    exact z
  clear hA0 hval0 hsz hsz0
  refine (Vl.valueOrders_walk s00 s01 s02 s03 s10 s11 s12 s13 a2 W b00 b01 b02 b10 b11 b12 w2).mono fun e W' ⟨he, bel⟩ => ?_
  subst he
  exact ⟨_, rfl, _, _, _, [], _, [], hW', trodAll_mk1 (shut_bool Tryd.underlying4 _), (trodAll_cons_mk (Below.trod Vl.laidOut (by kernel_rfl) (of_decide_eq_true (by kernel_rfl)) k0 bel lt0) (trodAll_cons_mk (Below.trod Vl.laidOut (by kernel_rfl) (of_decide_eq_true (by kernel_rfl)) k1 bel lt1) (trodAll_cons_mk (Below.trod Vl.laidOut (by kernel_rfl) (of_decide_eq_true (by kernel_rfl)) k2 bel lt2) trodAll_mk0))), rfl, bel.frame _, fun h => by cases h⟩
theorem laid_met (os : Os) : laidMet Tryd.prog Rows.valueOrdersRow.laid ((Vl.laidWorld os).forCall (fun _ _ => 0) ⟨#[], #[.agg #[.int .i64 0, .int .i64 0, .string ⟨#[]⟩, .bool false], .agg #[.int .i64 0, .int .i64 0, .string ⟨#[]⟩, .bool false], .string ⟨#[]⟩], []⟩).memory :=
  laidMet_of_run' 8 (by kernel_rfl) (by kernel_rfl)
theorem reads (os : Os) {H : Type} (enc : TypeId × Value → H) : ∃ places, DataW.whole enc Tryd.prog ((Vl.laidWorld os).forCall (fun _ _ => 0) ⟨#[], #[.agg #[.int .i64 0, .int .i64 0, .string ⟨#[]⟩, .bool false], .agg #[.int .i64 0, .int .i64 0, .string ⟨#[]⟩, .bool false], .string ⟨#[]⟩], []⟩).memory Tryd.f11.params.toList Rows.valueOrdersSpec.vars false (#[.agg #[.int .i64 0, .int .i64 0, .string ⟨#[]⟩, .bool false], .agg #[.int .i64 0, .int .i64 0, .string ⟨#[]⟩, .bool false], .string ⟨#[]⟩] : Array Value).toList 8 = some ([.agg [.lit (.int .i64 0), .lit (.int .i64 0), .lit (.string []), .lit (.bool false)], .agg [.lit (.int .i64 0), .lit (.int .i64 0), .lit (.string []), .lit (.bool false)], .lit (.string [])], [], places) :=
  ⟨[], by kernel_rfl⟩
set_option maxRecDepth 100000 in
theorem lifted (os : Os) (started : os.Started) (H : Type) (enc : TypeId × Value → H) (F : Stop.Interp) :
    ReturnsInHanded {} Tryd.checked os 11 .any ((OpenSpec.ofChange Rows.valueOrdersSpec).preRow enc Tryd.prog Tryd.f11 Rows.valueOrdersRow.domain false Rows.valueOrdersRow.laid) (((OpenSpec.ofChange Rows.valueOrdersSpec).at F).post enc Tryd.prog Tryd.f11 false true false false) := by
  obtain ⟨places, hx⟩ := reads os enc
  refine returnsInHanded_of_row (C := Tryd.checked) (s := OpenSpec.ofChange Rows.valueOrdersSpec) Vl.own started (by kernel_rfl) Tryd.func11
    (witness_row_at (enc := enc) (C := Tryd.checked) false (Vl.laidWorld os) #[.agg #[.int .i64 0, .int .i64 0, .string ⟨#[]⟩, .bool false], .agg #[.int .i64 0, .int .i64 0, .string ⟨#[]⟩, .bool false], .string ⟨#[]⟩] rfl (by kernel_rfl) (by kernel_rfl) (by kernel_rfl)
      (OpenSpec.preRow_of_cond 8 hx (by kernel_rfl) (fun k hk => by cases hk) (by kernel_rfl) (laid_met os))) ?_
  intro W base args ds gs before hval hW _ _ hsz _ _ _
  exact contract H enc W base args ds gs before hval hW hsz
theorem said : Rows.ValueOrdersSaid :=
  OpenClaim.holds_of_cond 11 Tryd.f11 rfl rfl rfl rfl rfl rfl rfl ⟨rfl, rfl, rfl, rfl, rfl⟩ rfl rfl rfl rfl rfl (by kernel_rfl) Tryd.func11 (by kernel_rfl)
    (of_decide_eq_true (by kernel_rfl)) (by unfold Func.isWrapper; first | (rw [if_pos (by decide +kernel)]; kernel_rfl) | (rw [if_neg (by decide +kernel)]; exact ⟨rfl, rfl⟩))
    (fun os started H enc _ F => by rw [OpenClaim.pre_eq_preRow]; exact lifted os started H enc F)
theorem plain (f : FuncId) (fn : Func) (hf : Tryd.pinned.checked.prog.funcNamed "stile/stilelaw01.ValueOrders" = some f) (hfn : Tryd.pinned.checked.prog.funcs[f]? = some fn) :
    false = Tryd.pinned.checked.prog.looks [] ∧ ∀ (j : Nat) t, fn.params[j]? = some t → Tryd.pinned.checked.prog.wantsStandIn t = false := by
  obtain rfl : f = 11 := Option.some.inj ((show Tryd.prog.funcNamed "stile/stilelaw01.ValueOrders" = some 11 by kernel_rfl).symm.trans hf) |>.symm
  obtain rfl : fn = Tryd.f11 := (Option.some.inj (Tryd.func11.symm.trans hfn)).symm
  refine ⟨by kernel_rfl, fun j t ht => ?_⟩
  rw [Tryd.params11] at ht
  have hm : t ∈ [25, 25, 9] := by simpa using Array.mem_of_getElem? ht
  have hall : ([25, 25, 9].all fun u => !Tryd.prog.wantsStandIn u) = true := by kernel_rfl
  exact (show Tryd.prog.wantsStandIn t = false by simpa using List.all_eq_true.1 hall t hm)
end Go.Proofs.YtlmkhpgnkpgbdaaDoor.valueOrders
namespace Go.Proofs.YtlmkhpgnkpgbdaaDoor
/-- THE CARD: the row, its two tables tied to the program's text. -/
theorem valueOrders_card : Rows.ValueOrdersCardSaid :=
  Claim7.holds_tied_plain_at .later [] _ _ _ _ valueOrders.said (fun _ h => by cases h) (by kernel_rfl) (fun _ h => by cases h) valueOrders_row_tie rfl ⟨rfl, rfl⟩ (by kernel_rfl) rfl valueOrders.plain (by kernel_rfl)
#print axioms valueOrders_card
end Go.Proofs.YtlmkhpgnkpgbdaaDoor
