-- Written by a program of the session (wip/tools/hprint.py over the kit's print).
import Derived.Test.YtlmkhpgnkpgbdaaDoorProg
import Derived.Below
import Derived.Deep.Draws
import Derived.Deep.AppendLies
import Derived.Maps.AppendAt
import Derived.OwnWalk
import Derived.Laws.BytesArg
import Derived.Laws.MakeOwn
import Derived.Laws.OwnMore
import Derived.Deep.OwnRows
import Derived.Tactics
import Derived.Lib.ConvBytes
import Derived.Laws.Slices
import Derived.WalkKit
import Derived.KernelRfl
import Derived.RowKit3
import Derived.Deep.LoopGhost
import Derived.Deep.QuietTactic
import Derived.BigQuiet
import Derived.WideLaws
import Derived.Deep.DeepCutAuto
import Derived.Deep.CutBlock
import Derived.Deep.RegionHeld3
import Derived.Laws.Rows
import Derived.Lib.AppendStr
import Derived.ArgAppend
import Derived.Laws.IdiomCopy
import Derived.OrdersHeld
import Derived.Laws.BitsLemmas
import Derived.RowKit
import Derived.Test.YtlmkhpgnkpgbdaaDoorHB
import Derived.Test.YtlmkhpgnkpgbdaaDoorHC
import Derived.Test.YtlmkhpgnkpgbdaaDoorHD
import Derived.Test.YtlmkhpgnkpgbdaaDoorU
import Derived.Test.YtlmkhpgnkpgbdaaDoorShelf
import Derived.Test.YtlmkhpgnkpgbdaaDoorWWords
import Derived.Test.YtlmkhpgnkpgbdaaDoorWLast
import Derived.Test.YtlmkhpgnkpgbdaaDoorWTab
import Derived.Test.YtlmkhpgnkpgbdaaDoorWFour
import Derived.Test.YtlmkhpgnkpgbdaaDoorWQPut
import Derived.Test.YtlmkhpgnkpgbdaaDoorWApart
import Derived.Test.YtlmkhpgnkpgbdaaDoorWArr
import Derived.Test.YtlmkhpgnkpgbdaaDoorWZeros
import Derived.Test.YtlmkhpgnkpgbdaaDoorWFoot
import Derived.Test.YtlmkhpgnkpgbdaaDoorWKept
import Derived.Test.YtlmkhpgnkpgbdaaDoorWShare
import Derived.Test.YtlmkhpgnkpgbdaaDoorWN
import Derived.Test.YtlmkhpgnkpgbdaaDoorWFootNe
import Derived.Test.YtlmkhpgnkpgbdaaDoorWAt
import Derived.Test.YtlmkhpgnkpgbdaaDoorWEqStruct
import Derived.Test.YtlmkhpgnkpgbdaaDoorWRepsOne
import Derived.Test.YtlmkhpgnkpgbdaaDoorWInv
import Derived.Test.YtlmkhpgnkpgbdaaDoorWInvWords
import Derived.Test.YtlmkhpgnkpgbdaaDoorWGuard
import Derived.Test.YtlmkhpgnkpgbdaaDoorWNEv
import Derived.Test.YtlmkhpgnkpgbdaaDoorWMore
import Derived.Test.YtlmkhpgnkpgbdaaDoorWSized
namespace Go.Proofs.YtlmkhpgnkpgbdaaDoor.PVALUE
open Go.RowKit Go.Proofs.YtlmkhpgnkpgbdaaDoorW.PrintWords Go.Proofs.YtlmkhpgnkpgbdaaDoorW.PrintLast Go.Proofs.YtlmkhpgnkpgbdaaDoorW.PrintMore
attribute [local go_sem] max2_int min2_int max_two min_two max_three min_three max_four min_four   -- for this text's walks alone
set_option linter.unusedVariables false
set_option linter.unusedSimpArgs false



def errW : Option Int → Value
  | none => .nilIface
  | some c => .iface 0 (.int .i64 c)
theorem errW_none : errW none = .nilIface := rfl
theorem errW_some (c : Int) : errW (some c) = .iface 0 (.int .i64 c) := rfl

theorem info4 : (Tryd.prog.info? 4).map (fun i => (i.zero, i.size, i.bytes)) = some (some (.bool false), 1, 1) := by kernel_rfl
theorem info32 : (Tryd.prog.info? 32).map (fun i => (i.zero, i.size, i.bytes)) = some (some (.int .i64 0), 1, 8) := by kernel_rfl
-- the values' own types
/-! #### struct type 28 -/
structure S28 where
  f0 : Int
  f1 : Int
  f2 : ByteArray
  f3 : Bool
def z28 : S28 := ⟨(0 : Int), (0 : Int), (⟨#[]⟩ : ByteArray), false⟩
def k28 : Kd S28 := Kd.iso (Kd.pair (Kd.int .i64) (Kd.pair (Kd.int .i64) (Kd.pair Kd.string Kd.bool))) (fun x : S28 => (x.f0, x.f1, x.f2, x.f3))
theorem k28_open {w : World} {x : S28} {cs : List Value} (h : k28.K w x cs) : cs = [.int .i64 x.f0, .int .i64 x.f1, .string x.f2, .bool x.f3] := by
  obtain ⟨_, _, rfl, rfl, ⟨_, _, rfl, rfl, ⟨_, _, rfl, rfl, rfl⟩⟩⟩ := h
  exact rfl
theorem k28_openM {w : World} {base : Nat} {ok : Nat → Prop} {x : S28} {cs : List Value} (h : k28.M w base ok x cs) : cs = [.int .i64 x.f0, .int .i64 x.f1, .string x.f2, .bool x.f3] := by
  obtain ⟨_, _, rfl, rfl, ⟨_, _, rfl, rfl, ⟨_, _, rfl, rfl, rfl⟩⟩⟩ := h
  exact rfl
theorem k28_mk (w : World) (x : S28)  : k28.K w x [.int .i64 x.f0, .int .i64 x.f1, .string x.f2, .bool x.f3] := ⟨[.int .i64 x.f0], [.int .i64 x.f1, .string x.f2, .bool x.f3], rfl, rfl, ⟨[.int .i64 x.f1], [.string x.f2, .bool x.f3], rfl, rfl, ⟨[.string x.f2], [.bool x.f3], rfl, rfl, rfl⟩⟩⟩
theorem k28_mkM (w : World) (base : Nat) (ok : Nat → Prop) (x : S28)  : k28.M w base ok x [.int .i64 x.f0, .int .i64 x.f1, .string x.f2, .bool x.f3] := ⟨[.int .i64 x.f0], [.int .i64 x.f1, .string x.f2, .bool x.f3], rfl, rfl, ⟨[.int .i64 x.f1], [.string x.f2, .bool x.f3], rfl, rfl, ⟨[.string x.f2], [.bool x.f3], rfl, rfl, rfl⟩⟩⟩
def rd_T28 (xs : List S28) (i : Int) : S28 := xs.getD i.toNat z28
theorem at_T28 {w : World} {A : Option Addr} {n : Nat} {xs : List S28} (h : Kd.C k28 w A n xs) (i : Int) (h0 : 0 ≤ i) (h1 : i < n) : ∃ ad , A = some ad ∧ w.cell? (ad.add (i.toNat * 4)) = some (.int .i64 (rd_T28 xs i).f0) ∧ w.cell? ⟨(ad.add (i.toNat * 4)).block, (ad.add (i.toNat * 4)).off + 1, none⟩ = some (.int .i64 (rd_T28 xs i).f1) ∧ w.cell? ⟨(ad.add (i.toNat * 4)).block, (ad.add (i.toNat * 4)).off + 2, none⟩ = some (.string (rd_T28 xs i).f2) ∧ w.cell? ⟨(ad.add (i.toNat * 4)).block, (ad.add (i.toNat * 4)).off + 3, none⟩ = some (.bool (rd_T28 xs i).f3) := by
  obtain ⟨ad, c, e, _, hK, hc0⟩ := Kd.C_get h z28 i h0 h1
  have hc : ∀ j u, c[j]? = some u → w.cell? (ad.add (i.toNat * 4 + j)) = some u := hc0
  obtain rfl := k28_open hK
  exact ⟨ad, e, hc 0 _ rfl, by rw [← add_field _ _ 1 (by omega)]; exact hc 1 _ rfl, by rw [← add_field _ _ 2 (by omega)]; exact hc 2 _ rfl, by rw [← add_field _ _ 3 (by omega)]; exact hc 3 _ rfl⟩

end Go.Proofs.YtlmkhpgnkpgbdaaDoor.PVALUE
