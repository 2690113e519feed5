/- The modes of locks: what the rows share: a struct of five cells by value; what the two listed tables give. -/
import Derived.Test.YthgklkmkciljmaaDoorE
import Derived.Test.YthgklkmkciljmaaDoorI
import Derived.Test.YthgklkmkciljmaaDoorCards
import Derived.Test.YthgklkmkciljmaaDoorTie
import Derived.ProofKit
import Derived.OpenShut
import Derived.ShutString
import Derived.ChangeOld
import Derived.Below
import Derived.SizedLaws
import Derived.Deep.DeepHandedRow
import Derived.Lib.LaidTab
import Derived.Lib.SmallJoins
namespace Go.Proofs.YthgklkmkciljmaaDoor
open Go.ChangeShapes Go.WideShapes Go.ChangeAt Go.RowKit
open Go.Joins Go.Deep
set_option linter.unusedVariables false
set_option linter.unusedSimpArgs false
namespace Md
section
variable {H : Type} {enc : TypeId × Value → H} {P : Program} {w : World} {base : Nat} {spare : Nat → Bool} {held : Bool}
theorem open_agg5 {r : Reach} {b0 : Nat} {t : TypeId} {f0 f1 f2 f3 f4 : Field} {v : Value} {d : DataW H} {p : List MemPlace} (hs : P.underlying t = some (.struct #[f0, f1, f2, f3, f4])) (hone : oneCellFields P #[f0, f1, f2, f3, f4] = true) (hC : P.cellsOf t = 5)
    (hv : Value.okWide P w r b0 t v) (h : DataW.Trod enc P w base spare held t v d p) :
    ∃ (v0 v1 v2 v3 v4 : Value) (y0 y1 y2 y3 y4 : DataW H × List MemPlace) (n : Nat), v = .agg #[v0, v1, v2, v3, v4] ∧ d = .agg [y0.1, y1.1, y2.1, y3.1, y4.1] ∧ p = y0.2 ++ (y1.2 ++ (y2.2 ++ (y3.2 ++ y4.2))) ∧
      DataW.trod enc P w base spare held n f0.type [v0] = some y0 ∧ DataW.trod enc P w base spare held n f1.type [v1] = some y1 ∧ DataW.trod enc P w base spare held n f2.type [v2] = some y2 ∧ DataW.trod enc P w base spare held n f3.type [v3] = some y3 ∧ DataW.trod enc P w base spare held n f4.type [v4] = some y4 := by
  obtain ⟨cs, rfl, hsz⟩ := okWide_struct hs hv
  obtain ⟨l⟩ := cs
  match l, hsz.trans hC with
  | [c0, c1, c2, c3, c4], _ =>
    obtain ⟨fuel, hf⟩ := h
    obtain ⟨xs, n, _, hx, _, hlen, hg⟩ := DataW.trod_struct hs hf
    obtain ⟨o0, k0⟩ := hone_of hone 0 f0 rfl
    obtain ⟨o1, k1⟩ := hone_of hone 1 f1 rfl
    obtain ⟨o2, k2⟩ := hone_of hone 2 f2 rfl
    obtain ⟨o3, k3⟩ := hone_of hone 3 f3 rfl
    obtain ⟨o4, k4⟩ := hone_of hone 4 f4 rfl
    match xs, hlen with
    | [y0, y1, y2, y3, y4], _ =>
      simp only [Prod.mk.injEq] at hx
      exact ⟨c0, c1, c2, c3, c4, y0, y1, y2, y3, y4, n, rfl, by simpa using hx.1, by simpa using hx.2, by simpa [Value.cells, o0, k0] using hg 0 f0 rfl, by simpa [Value.cells, o1, k1] using hg 1 f1 rfl, by simpa [Value.cells, o2, k2] using hg 2 f2 rfl, by simpa [Value.cells, o3, k3] using hg 3 f3 rfl, by simpa [Value.cells, o4, k4] using hg 4 f4 rfl⟩
/-- an array of bools -/
theorem cells_bools {fuel : Nat} {t e : TypeId} {n : Nat} {cs : List Value} {bs : List Bool} {p : List MemPlace} (ht : P.underlying t = some (.array n e)) (he : P.underlying e = some .bool) (hce : P.cellsOf e = 1)
    (h : DataW.trod enc P w base spare held fuel t cs = some (.agg (bs.map fun b => .lit (.bool b)), p)) (i : Nat) (hi : i < n) : cs[i]? = some (.bool (bs.getD i false)) := by
  obtain ⟨xs, m, rfl, hx, hl, hxl, hg⟩ := DataW.trod_array ht h
  have h1 := hg i hi
  rw [hce, Nat.mul_one] at h1
  have hi' : i < xs.length := by omega
  rw [List.getElem?_eq_getElem hi'] at h1
  obtain ⟨b, hb, hv⟩ := DataW.trod_bool he h1
  have h2 : xs.map (·.1) = bs.map fun b => (DataW.lit (.bool b) : DataW H) := by simpa using (congrArg Prod.fst hx).symm
  have h3 : (xs.map (·.1))[i]? = some (DataW.lit (.bool b)) := by simp [hi', hv]
  rw [h2] at h3
  simp only [List.getElem?_map, Option.map_eq_some_iff, DataW.lit.injEq, Lit.bool.injEq] at h3
  obtain ⟨b', hb', rfl⟩ := h3
  have h4 : cs[i]? = some (.bool b') := by
    have := congrArg (·[0]?) hb
    simpa [List.getElem?_take, List.getElem?_drop] using this
  rw [h4]; simp [List.getD, hb']
end
theorem gFits : Tryd.prog.globalNamed "stile/modes.fits" = some 0 := by kernel_rfl
theorem gCov : Tryd.prog.globalNamed "stile/modes.covers" = some 1 := by kernel_rfl
theorem tFits : (Tryd.prog.globals[0]?).map (·.type) = some 37 := by kernel_rfl
theorem tCov : (Tryd.prog.globals[1]?).map (·.type) = some 40 := by kernel_rfl
abbrev laid2 : List (String × DataW Unit) := [("stile/modes.fits", Rows.laid_stile_modes_fits), ("stile/modes.covers", Rows.laid_stile_modes_covers)]
def rowsB : List (List Bool) := [[true, true, true, true, true, true, true], [true, true, true, true, true, true, false], [true, true, true, false, false, false, false], [true, true, false, true, false, true, false], [true, true, false, false, false, false, false], [true, true, false, false, false, false, false], [true, false, false, false, false, false, false]]
theorem fits_datum : (Rows.laid_stile_modes_fits : DataW Unit) = .agg (rowsB.map fun r => .agg (r.map fun b => .lit (.bool b))) := rfl
theorem tail {P : Program} {x : String × DataW Unit} {r : List (String × DataW Unit)} {w : World} (h : laidMet P (x :: r) w) : laidMet P r w := by
  obtain ⟨ps, hv, hnd, hrows⟩ := h
  obtain ⟨n, d⟩ := x
  obtain ⟨g, t, cs, fuel, p, q, _, _, _, _, hq, rfl⟩ := hv
  exact ⟨q, hq, List.Nodup.sublist (List.sublist_append_right _ _) hnd, fun b off hm => hrows b off (List.mem_append_right _ hm)⟩
/-- WHAT THE ROWS' LIST GIVES: both tables' cells. -/
theorem gl_of {W : World} (h : laidMetH Tryd.prog laid2 W) : Gl W := by
  rw [MakeChecks.laidMetH_plain _ _ _ (by kernel_rfl)] at h
  have hc : Lib.TabIs Tryd.prog W "stile/modes.covers" .u64 covL := Lib.tabIs_of_head (rest := []) gCov tCov Tryd.underlying40 Tryd.underlying39 (by kernel_rfl) (by kernel_rfl) (tail h)
  obtain ⟨ps, ⟨g0, t0, cs0, f0, p0, q0, hg0, ht0, hv0, hd0, _, _⟩, _⟩ := h
  obtain rfl := Option.some.inj (gFits.symm.trans hg0)
  obtain rfl := Option.some.inj (tFits.symm.trans ht0)
  rw [fits_datum] at hd0
  obtain ⟨xs, m, rfl, hx, hl, hxl, hg⟩ := DataW.trod_array Tryd.underlying37 hd0
  have hxs : xs.map (·.1) = rowsB.map fun r => (.agg (r.map fun b => .lit (.bool b)) : DataW Unit) := by simpa using (congrArg Prod.fst hx).symm
  have hcov : ∀ i, i < 7 → W.cell? ⟨1, i, none⟩ = some (.int .u64 (covL.getD i 0)) := fun i hi => hc.cell gCov i hi
  refine ⟨?_, ?_, hcov⟩
  · have := World.block_lt_of_cell? W _ (hcov 0 (by omega))
    exact this
  · intro i hi
    rw [World.var?_cell hg0 hv0 i]
    have h7 : i / 7 < 7 := by omega
    have h1 := hg (i / 7) h7
    have c36 : Tryd.prog.cellsOf 36 = 7 := by kernel_rfl
    rw [c36] at h1
    have hi' : i / 7 < xs.length := by omega
    rw [List.getElem?_eq_getElem hi'] at h1
    have h3 : (xs.map (·.1))[i / 7]? = some (xs[i / 7]).1 := by simp [hi']
    rw [hxs] at h3
    have h5 : i / 7 < rowsB.length := by simpa [rowsB] using h7
    simp only [List.getElem?_map, List.getElem?_eq_getElem h5, Option.map_some, Option.some.injEq] at h3
    have h6 := h1.trans (congrArg some (show xs[i / 7] = ((.agg ((rowsB[i / 7]).map fun b => .lit (.bool b)) : DataW Unit), (xs[i / 7]).2) by rw [h3]))
    have h8 := cells_bools Tryd.underlying36 Tryd.underlying4 (by kernel_rfl) h6 (i % 7) (by omega)
    rw [List.getElem?_take, List.getElem?_drop, if_pos (by omega)] at h8
    have h9 : i / 7 * 7 + i % 7 = i := by omega
    rw [h9] at h8
    have h10 : (rowsB[i / 7]).getD (i % 7) false = fitsL.getD i false := by
      have all : ∀ k : Fin 49, ((rowsB.getD (k.val / 7) []).getD (k.val % 7) false) = fitsL.getD k.val false := by decide
      have := all ⟨i, hi⟩
      simpa [List.getD, List.getElem?_eq_getElem h5] using this
    rw [h10] at h8
    simpa using h8
end Md
end Go.Proofs.YthgklkmkciljmaaDoor
