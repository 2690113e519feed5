/- SQL's values: sums and differences, texts behind one another. -/
import Derived.Test.YtlmkhpgnkpgbdaaDoorB
namespace Go.Proofs.YtlmkhpgnkpgbdaaDoor
open Go.RowKit
set_option linter.unusedVariables false
set_option linter.unusedSimpArgs false
namespace Vl
abbrev sLong : ByteArray := ⟨#[50, 50, 48, 48, 49]⟩
theorem text_any (n : ByteArray) (w : World) : Calls Tryd.prog 55 #[.string n] w fun e w' => e = .returned (.agg #[.int .i64 2, .int .i64 0, .string n, .bool false]) ∧ Nw w w' := by
  go_enter Tryd.func55, Tryd.ntmps55
  go_wp2
  exact bodyPost_ret (v := .agg #[.int .i64 2, .int .i64 0, .string n, .bool false]) (by simp [results, Tryd.results55, go_sem]) rfl ⟨rfl, (Nw.refl w).alloc _⟩
/-- what an operation on values of kind k comes to, do: on what is in them -/
def liftV (k : Int) (x y : Vl) (r : Vl × ByteArray) : Vl × ByteArray :=
  if (x.k ≠ 0 ∧ x.k ≠ k) ∨ (y.k ≠ 0 ∧ y.k ≠ k) then (.null, sMis) else if x.k = 0 ∨ y.k = 0 then (.null, sDone) else r
def inR (ok : Bool) (n : Int) : Vl × ByteArray := if ok then (.num n, sDone) else (.null, sRange)
def addD (a b : Int) : Vl × ByteArray := inR (decide (a < wrap64 (a + b)) == decide (0 < b)) (wrap64 (a + b))
def subD (a b : Int) : Vl × ByteArray := inR (decide (wrap64 (a - b) < a) == decide (0 < b)) (wrap64 (a - b))
def addV (x y : Vl) : Vl × ByteArray := liftV 1 x y (addD x.n y.n)
def subV (x y : Vl) : Vl × ByteArray := liftV 1 x y (subD x.n y.n)
end Vl
end Go.Proofs.YtlmkhpgnkpgbdaaDoor
