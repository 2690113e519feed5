-- Written by a program of the session (wip/tools/hprint.py over the kit's print).
import Derived.Test.YtlmkhpgnkpgbdaaDoorPVALUEx0
namespace Go.Proofs.YtlmkhpgnkpgbdaaDoor.PVALUE
open Go.RowKit Go.Proofs.YtlmkhpgnkpgbdaaDoorW.PrintWords Go.Proofs.YtlmkhpgnkpgbdaaDoorW.PrintLast Go.Proofs.YtlmkhpgnkpgbdaaDoorW.PrintMore
attribute [local go_sem] max2_int min2_int max_two min_two max_three min_three max_four min_four   -- for this text's walks alone
set_option linter.unusedVariables false
set_option linter.unusedSimpArgs false

/-! ### api_Kind_79: function 79 -/
def api_Kind_79.f (a0 : Int) : Option (Bool) := some (a0 != a0)
set_option maxHeartbeats 8000000 in
set_option maxRecDepth 100000 in
theorem api_Kind_79.calls (a0 : Int) (r : Bool) (w : World) (h : api_Kind_79.f a0 = some r) :
    Calls Tryd.prog 79 #[.int .i64 a0] w fun e w' => e = .returned (.bool r) ∧ Drawn0 w w' := by
  have H : (some (a0 != a0)) = some r := h
  clear h
  obtain rfl := Option.some.inj H
  go_enter Tryd.func79, Tryd.ntmps79
  go_wp2
  go_ret
  exact ⟨by first | rfl | (simp; done) | (simp [*]; done), by repeat (first | exact Drawn0.refl _ | apply Drawn0.step)⟩

end Go.Proofs.YtlmkhpgnkpgbdaaDoor.PVALUE
