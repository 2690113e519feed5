/- SQL's values: the three truths: the law. -/
import Derived.Test.YtlmkhpgnkpgbdaaDoorPVALUEx24
namespace Go.Proofs.YtlmkhpgnkpgbdaaDoor
open Go.RowKit Go.Proofs.YtlmkhpgnkpgbdaaDoor.PVALUE Go.Proofs.YtlmkhpgnkpgbdaaDoorW.PrintWords Go.Proofs.YtlmkhpgnkpgbdaaDoorW.PrintLast
set_option linter.unusedVariables false
set_option linter.unusedSimpArgs false
namespace Vl
theorem pick_ok (a n : Int) (hn : 0 < n) (w : (Lit.int .i64 a).wf = true) : ∃ t, stilelaw01_pick.f a n = some t ∧ 0 ≤ t ∧ t < n := by
  have w : -9223372036854775808 ≤ a ∧ a ≤ 9223372036854775807 := by have hz := w; simp only [Lit.wf, Bool.and_eq_true, decide_eq_true_eq] at hz; exact hz
  unfold stilelaw01_pick.f
  have e1 : ¬ n = 0 := by omega
  by_cases h : a < 0
  · rw [if_pos h, if_neg e1]
    have h1 : wrap64 (-(wrap64 (a + 1))) = -(a + 1) := by unfold wrap64; omega
    rw [h1, Int.tmod_eq_emod_of_nonneg (by omega)]
    exact ⟨_, rfl, Int.emod_nonneg _ e1, Int.emod_lt_of_pos _ hn⟩
  · rw [if_neg h, if_neg e1, Int.tmod_eq_emod_of_nonneg (by omega)]
    exact ⟨_, rfl, Int.emod_nonneg _ e1, Int.emod_lt_of_pos _ hn⟩
theorem alive_ok : stilelaw01_alive.f 40 = some true := by decide +kernel
theorem three (t : Int) (h0 : 0 ≤ t) (h1 : t < 3) : t = 0 ∨ t = 1 ∨ t = 2 := by omega
theorem logic_all : ([0, 1, 2] : List Int).all (fun x => ([0, 1, 2] : List Int).all fun y => ([0, 1, 2] : List Int).all fun z =>
    ((value_And.f 44 x y).bind fun t213 => ((value_Not.f 44 t213).bind fun t214 => ((value_Not.f 44 x).bind fun t215 => ((value_Not.f 44 y).bind fun t216 => ((value_Or.f 44 t215 t216).bind fun t217 => (if t214 = t217 then ((value_Not.f 44 x).bind fun t218 => ((value_Not.f 44 t218).bind fun t219 => (stilelaw01_ValueLogic.j0 44 x y z (t219 == x)))) else (stilelaw01_ValueLogic.j0 44 x y z false))))))) == some true) = true := by decide +kernel
theorem valueLogic_f (a0 a1 a2 : Int) (w0 : (Lit.int .i64 a0).wf = true) (w1 : (Lit.int .i64 a1).wf = true) (w2 : (Lit.int .i64 a2).wf = true) : stilelaw01_ValueLogic.f 44 a0 a1 a2 = some true := by
  obtain ⟨x, e0, x0, x1⟩ := pick_ok a0 3 (by decide) w0
  obtain ⟨y, e1, y0, y1⟩ := pick_ok a1 3 (by decide) w1
  obtain ⟨z, e2, z0, z1⟩ := pick_ok a2 3 (by decide) w2
  unfold stilelaw01_ValueLogic.f
  rw [e0, e1, e2]
  simp only [Option.bind_some]
  have hx : x ∈ ([0, 1, 2] : List Int) := by rcases three x x0 x1 with rfl | rfl | rfl <;> simp
  have hy : y ∈ ([0, 1, 2] : List Int) := by rcases three y y0 y1 with rfl | rfl | rfl <;> simp
  have hz : z ∈ ([0, 1, 2] : List Int) := by rcases three z z0 z1 with rfl | rfl | rfl <;> simp
  have h := List.all_eq_true.1 (List.all_eq_true.1 (List.all_eq_true.1 logic_all x hx) y hy) z hz
  exact beq_iff_eq.1 h
theorem valueLogic_walk (a0 a1 a2 : Int) (W : World) (w0 : (Lit.int .i64 a0).wf = true) (w1 : (Lit.int .i64 a1).wf = true) (w2 : (Lit.int .i64 a2).wf = true) : Calls Tryd.prog 5 #[.int .i64 a0, .int .i64 a1, .int .i64 a2] W fun e W' => e = .returned (.bool true) ∧ Below W.heap.size W W' :=
  stilelaw01_ValueLogic.calls 44 a0 a1 a2 true W (valueLogic_f a0 a1 a2 w0 w1 w2)
end Vl
end Go.Proofs.YtlmkhpgnkpgbdaaDoor
