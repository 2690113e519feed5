/- SQL's values: what the rows share: the world that the witness begins in. -/
import Derived.Test.YtlmkhpgnkpgbdaaDoorRows
import Derived.Test.YtlmkhpgnkpgbdaaDoorCards
import Derived.Test.YtlmkhpgnkpgbdaaDoorTie
import Derived.ProofKit
import Derived.OpenShut
import Derived.ShutString
import Derived.ChangeOld
import Derived.Below
import Derived.SizedLaws
import Derived.Deep.DeepHandedRow
import Derived.Lib.SmallJoins
import Derived.LaidMore
namespace Go.Proofs.YtlmkhpgnkpgbdaaDoor
open Go.ChangeShapes Go.WideShapes Go.ChangeAt Go.RowKit
set_option linter.unusedVariables false
set_option linter.unusedSimpArgs false
namespace Vl
theorem own : ownKnob Tryd.prog.godebug = none := by kernel_rfl
theorem laidOut : laidOutB Tryd.prog = true := by kernel_rfl
/-- A WORLD FOR THE WITNESS: the settled one, the two tables holding what they are listed with. -/
noncomputable def firstBlock : Obj → Obj
  | .cells _ t frozen => .cells (Go.Pinned.utf8FirstZ.map fun (n : Nat) => Value.int .u8 (n : Int)).toArray t frozen
  | o => o
noncomputable def acceptBlock : Obj → Obj
  | .cells _ t frozen => .cells #[.int .u8 128, .int .u8 191, .int .u8 160, .int .u8 191, .int .u8 128, .int .u8 159, .int .u8 144, .int .u8 191, .int .u8 128, .int .u8 143, .int .u8 0, .int .u8 0, .int .u8 0, .int .u8 0, .int .u8 0, .int .u8 0, .int .u8 0, .int .u8 0, .int .u8 0, .int .u8 0, .int .u8 0, .int .u8 0, .int .u8 0, .int .u8 0, .int .u8 0, .int .u8 0, .int .u8 0, .int .u8 0, .int .u8 0, .int .u8 0, .int .u8 0, .int .u8 0] t frozen
  | o => o
noncomputable def laidWorld (os : Os) : World :=
  { World.holding Tryd.prog os ⟨#[], #[], []⟩ with heap := ((World.holding Tryd.prog os ⟨#[], #[], []⟩).heap.modify 1 firstBlock).modify 2 acceptBlock }
theorem size_agg4 {H : Type} {t : TypeId} {f0 f1 f2 f3 : Field} {d0 d1 d2 d3 : DataW H} {ts : List TypeId} {ds : List (DataW H)} {j : Nat} (hs : Tryd.prog.underlying t = some (.struct #[f0, f1, f2, f3])) (h : (DataW.weightsEach Tryd.prog ts ds).all (· ≤ reachBytes) = true) (ht : ts[j]? = some t) (hd : ds[j]? = some (.agg [d0, d1, d2, d3])) :
    ∀ n, n ∈ d0.weights Tryd.prog f0.type ++ (d1.weights Tryd.prog f1.type ++ (d2.weights Tryd.prog f2.type ++ d3.weights Tryd.prog f3.type)) → n ≤ 140737488351232 := by
  intro n hn
  have := List.all_eq_true.1 h _ (DataW.weights_mem_each ht hd n (by simp only [DataW.weights, hs, DataW.weightsEach, List.map_cons, List.map_nil, List.append_nil]; exact hn))
  exact Nat.le_trans (of_decide_eq_true this) (by decide)
end Vl
end Go.Proofs.YtlmkhpgnkpgbdaaDoor
