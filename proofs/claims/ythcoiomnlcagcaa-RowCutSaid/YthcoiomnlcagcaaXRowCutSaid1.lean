/- Texts of this claim, set one behind the other by a program: part 1. -/
import Derived.Test.YthcoiomnlcagcaaProg
import Derived.WalkKit
import Derived.Lib.Hide
import Derived.WalkLawsBesides
import Derived.WalkSpells
import Derived.Outline
import Derived.Test.YthcoiomnlcagcaaWZeros
import Derived.Test.YthcoiomnlcagcaaWKept
import Derived.Below
import Derived.Deep.Draws
import Derived.Deep.AppendLies
import Derived.Maps.AppendAt
import Derived.OwnWalk
import Derived.Laws.BytesArg
import Derived.Laws.MakeOwn
import Derived.Laws.OwnMore
import Derived.Deep.OwnRows
import Derived.Tactics
import Derived.Lib.ConvBytes
import Derived.Laws.Slices
import Derived.KernelRfl
import Derived.RowKit3
import Derived.Deep.LoopGhost
import Derived.Deep.QuietTactic
import Derived.BigQuiet
import Derived.WideLaws
import Derived.Deep.DeepCutAuto
import Derived.Deep.CutBlock
import Derived.Deep.RegionHeld3
import Derived.Laws.Rows
import Derived.Lib.AppendStr
import Derived.ArgAppend
import Derived.Laws.IdiomCopy
import Derived.OrdersHeld
import Derived.Laws.BitsLemmas
import Derived.RowKit
import Derived.Test.YthcoiomnlcagcaaWWords
import Derived.Test.YthcoiomnlcagcaaWLast
import Derived.Test.YthcoiomnlcagcaaWTab
import Derived.Test.YthcoiomnlcagcaaWFour
import Derived.Test.YthcoiomnlcagcaaWQPut
import Derived.Test.YthcoiomnlcagcaaWApart
import Derived.Test.YthcoiomnlcagcaaWArr
import Derived.Test.YthcoiomnlcagcaaWFoot
import Derived.Test.YthcoiomnlcagcaaWShare
import Derived.Test.YthcoiomnlcagcaaWN
import Derived.Test.YthcoiomnlcagcaaWFootNe
import Derived.Test.YthcoiomnlcagcaaWAt
import Derived.Test.YthcoiomnlcagcaaWEqStruct
import Derived.Test.YthcoiomnlcagcaaWRepsOne
import Derived.Test.YthcoiomnlcagcaaWInv
import Derived.Test.YthcoiomnlcagcaaWInvWords
import Derived.Test.YthcoiomnlcagcaaWGuard
import Derived.Test.YthcoiomnlcagcaaWNEv
import Derived.Test.YthcoiomnlcagcaaWMore
import Derived.Test.YthcoiomnlcagcaaWSized
import Derived.Recover
import Derived.Defers
import Derived.Tactics2
import Derived.Laws.Pointers
namespace Go.Proofs.Ythcoiomnlcagcaa
open Go.RowKit
set_option linter.unusedVariables false
set_option linter.unusedSimpArgs false
namespace Rw
/-- the i-th byte of a number, the lowest first -/
def leB (n : Int) (i : Nat) : Int := n / 2 ^ (8 * i) % 256
/-- cells, the first k behind a place holding a number's bytes -/
def fillC (cs : Array Value) (off : Nat) (n : Int) : Nat → Array Value
  | 0 => cs
  | k + 1 => (fillC cs off n k).setIfInBounds (off + k) (.int .u8 (leB n k))
theorem fillC_size (cs : Array Value) (off : Nat) (n : Int) : ∀ k, (fillC cs off n k).size = cs.size
  | 0 => rfl
  | k + 1 => by simp [fillC, fillC_size cs off n k]
/-- w' is w, but for block g, which holds cs -/
def At (w : World) (g : Nat) (cs : Array Value) (w' : World) : Prop :=
  w'.os = w.os ∧ w'.tape = w.tape ∧ w'.output = w.output ∧ w'.heap.size = w.heap.size ∧ (∀ i, i ≠ g → w'.heap[i]? = w.heap[i]?) ∧ w'.heap[g]? = some (.cells cs 5 (0, 0))
theorem At.set {w w1 : World} {g : Nat} {cs : Array Value} (h : At w g cs w1) (i : Nat) (v : Value) : At w g (cs.setIfInBounds i v) (w1.setCell ⟨g, i, none⟩ v) := by
  obtain ⟨h1, h2, h3, h4, h5, h6⟩ := h
  refine ⟨h1, h2, h3, ?_, fun j hj => ?_, ?_⟩
  · simp [World.setCell, h4]
  · rw [← h5 j hj]; simp [World.setCell, Array.getElem?_modify, hj.symm]
  · simp [World.setCell, Array.getElem?_modify, h6]
theorem put_sub (g off n cap : Nat) (a : Int) (cs : Array Value) (w : World) (hb : w.heap[g]? = some (.cells cs 5 (0, 0))) (h1 : off + n ≤ cs.size) (hn : n ≤ 8) (a0 : 0 ≤ a) (a1 : a < 18446744073709551616) :
    Calls Try.prog 28 #[.slice (some ⟨g, off, none⟩) n cap, .int .u64 a] w fun e w' => e = .returned (.tuple #[]) ∧ At w g (fillC cs off a n) w' := by
  have HB := Lib.hid hb
  have H1 := Lib.hid h1
  clear hb h1
  go_enter Try.func28, Try.ntmps28
  go_wp2_with fail
  go_loopw [7] (fun i wr => ∃ k : Nat, k ≤ n ∧ i = .int .i64 k ∧ Hid (At w g (fillC cs off a k) wr)) (fun i _ => n - (intOf i).toNat)
  case atStart => exact ⟨0, Nat.zero_le _, rfl, ⟨rfl, rfl, rfl, rfl, fun _ _ => rfl, HB.out⟩⟩
  case round =>
    obtain ⟨k, hk, rfl, hA⟩ := hrel
    by_cases hlt : k < n
    · have hsz := fillC_size cs off a k
      obtain ⟨v, hv⟩ : ∃ v, (fillC cs off a k)[off + k]? = some v := ⟨_, Array.getElem?_eq_getElem (by have := H1.out; omega)⟩
      have hc : wr.cell? ⟨g, off + k, none⟩ = some v := by simp [World.cell?, hA.out.2.2.2.2.2, hv]
      have hf : wr.frozen? ⟨g, off + k, none⟩ = false := by simp [World.frozen?, hA.out.2.2.2.2.2]
      have HV := Lib.hid hv
      have HZ := Lib.hid hsz
      clear hv hsz
      have e8 : (8 : Int) * ↑k ≤ 64 := by omega
      have e0 : (0 : Int) ≤ 8 * ↑k := by omega
      go_wp2_with fail
      go_roundw
      case rel => exact ⟨k + 1, by omega, by go_num, hA.out.set (off + k) _⟩
      case measure => simp [intOf]; omega
    · go_wp2_with fail
      obtain rfl : k = n := by omega
      first | go_end0 | (refine bodyPost_ret (v := .tuple #[]) (by simp [results, Try.results28, go_sem]) rfl ?_)
      exact ⟨rfl, hA.out⟩
end Rw
end Go.Proofs.Ythcoiomnlcagcaa

namespace Go.Proofs.Ythcoiomnlcagcaa
open Go.RowKit Go.Proofs.YthcoiomnlcagcaaW.PrintWords Go.Proofs.YthcoiomnlcagcaaW.PrintLast
set_option linter.unusedVariables false
set_option linter.unusedSimpArgs false
namespace Rw
theorem Reps_int {k : IntKind} {w : World} {base : Nat} {ok : Nat → Prop} : ∀ {xs : List Int} {cs : List Value}, Reps ((Kd.int k).M w base ok) 1 xs cs → cs = nums k xs := by
  intro xs cs h
  obtain ⟨h1, h2⟩ := h
  apply List.ext_getElem?
  intro j
  by_cases hj : j < xs.length
  · have h3 := h2 j xs[j] (List.getElem?_eq_getElem hj)
    have h4 : (cs.drop (j * 1)).take 1 = [.int k xs[j]] := h3
    have h5 : cs[j]? = some (.int k xs[j]) := by
      have := congrArg (·[0]?) h4
      simpa [List.getElem?_take, List.getElem?_drop] using this
    rw [h5]; simp [nums, hj]
  · rw [List.getElem?_eq_none (by omega), List.getElem?_eq_none (by simp [nums]; omega)]
theorem int_Reps {k : IntKind} {w : World} {base : Nat} {ok : Nat → Prop} (xs : List Int) : Reps ((Kd.int k).M w base ok) 1 xs (nums k xs) := by
  refine ⟨by simp [nums], fun j p hp => ?_⟩
  obtain ⟨hj, rfl⟩ := List.getElem?_eq_some_iff.1 hp
  show ((nums k xs).drop (j * 1)).take 1 = [.int k xs[j]]
  rw [Nat.mul_one, List.drop_eq_getElem_cons (by simpa [nums] using hj)]
  simp [nums]
theorem R_own {k : IntKind} {e : Nat} {w : World} {base : Nat} {ok : Nat → Prop} {v : Value} {xs : List Int} (h : Kd.R (Kd.int k) e w base ok v xs) : (∀ b, v.ownBlock = some b → ok b) ∧ w.ownsRow base e 1 v xs.length (nums k xs) := by
  obtain ⟨h1, inner, h2, h3⟩ := h
  obtain rfl := Reps_int h3
  exact ⟨h1, h2⟩
theorem own_R {k : IntKind} {e : Nat} {w : World} {base : Nat} {ok : Nat → Prop} {v : Value} {xs : List Int} (h1 : ∀ b, v.ownBlock = some b → ok b) (h2 : w.ownsRow base e 1 v xs.length (nums k xs)) : Kd.R (Kd.int k) e w base ok v xs :=
  ⟨h1, nums k xs, h2, int_Reps xs⟩
end Rw
end Go.Proofs.Ythcoiomnlcagcaa

namespace Go.Proofs.Ythcoiomnlcagcaa
open Go.RowKit Go.Proofs.YthcoiomnlcagcaaW.PrintWords Go.Proofs.YthcoiomnlcagcaaW.PrintLast
set_option linter.unusedVariables false
set_option linter.unusedSimpArgs false
namespace Rw
theorem info5 : (Try.prog.info? 5).map (fun i => (i.zero, i.size, i.bytes)) = some (some (.int .u8 0), 1, 1) := by kernel_rfl
def leL (a : Int) (n : Nat) : List Int := (List.range n).map (leB a)
theorem fillC_get (cs : Array Value) (off : Nat) (a : Int) (i : Nat) : ∀ k, off + k ≤ cs.size → (fillC cs off a k)[i]? = if off ≤ i ∧ i < off + k then some (.int .u8 (leB a (i - off))) else cs[i]?
  | 0, _ => by simp only [fillC]; rw [if_neg (by omega)]
  | k + 1, h => by
    have ih := fillC_get cs off a i k (by omega)
    have hz := fillC_size cs off a k
    simp only [fillC]
    rw [Array.getElem?_setIfInBounds]
    by_cases e : off + k = i
    · subst e
      rw [if_pos rfl, if_pos (by omega), if_pos (by omega)]
      congr 2
      congr 1
      omega
    · rw [if_neg e, ih]
      by_cases c : off ≤ i ∧ i < off + k
      · rw [if_pos c, if_pos (by omega)]
      · rw [if_neg c, if_neg (by omega)]
theorem fill_take (cs : Array Value) (l0 : List Int) (a : Int) (n m : Nat) (hm : l0.length + n = m) (hc : m ≤ cs.size) (ht : cs.toList.take (m * 1) = nums .u8 (l0 ++ List.replicate n 0)) :
    (fillC cs (m - n) a n).toList.take (m * 1) = nums .u8 (l0 ++ leL a n) := by
  apply List.ext_getElem?
  intro i
  rw [List.getElem?_take, Nat.mul_one]
  by_cases hi : i < m
  · rw [if_pos hi, Array.getElem?_toList, fillC_get _ _ _ _ _ (by omega)]
    by_cases c : m - n ≤ i ∧ i < m - n + n
    · rw [if_pos c]
      simp only [nums, List.map_append]
      rw [List.getElem?_append_right (by simp; omega)]
      have : i - l0.length < n := by omega
      simp [leL, this, show i - (m - n) = i - l0.length from by omega]
    · rw [if_neg c]
      have h1 := congrArg (·[i]?) ht
      simp only [Nat.mul_one] at h1
      rw [List.getElem?_take, if_pos hi, Array.getElem?_toList] at h1
      rw [h1]
      simp only [nums, List.map_append]
      rw [List.getElem?_append_left (by simp; omega), List.getElem?_append_left (by simp; omega)]
  · rw [if_neg hi, List.getElem?_eq_none (by simp [nums, leL]; omega)]
theorem At.below {w0 w1 w2 : World} {g : Nat} {cs : Array Value} (hb : Below w0.heap.size w0 w1) (h : At w1 g cs w2) (hg : w0.heap.size ≤ g) : Below w0.heap.size w0 w2 := by
  obtain ⟨h1, h2, h3, h4, h5, h6⟩ := h
  exact ⟨h1.trans hb.os, h2.trans hb.tape, h3.trans hb.output, by rw [h4]; exact hb.size, fun i hi => (h5 i (by omega)).trans (hb.block i hi)⟩
theorem append_le (P0_ : Nat → Prop) (u : Value) (l0 : List Int) (a : Int) (n : Nat) (w0 w : World) (hB : Below w0.heap.size w0 w) (ho0 : Kd.R (Kd.int .u8) 5 w w0.heap.size P0_ u l0) (n1 : 1 ≤ n) (n8 : n ≤ 8) (a0 : 0 ≤ a) (a1 : a < 18446744073709551616) (hl : l0.length ≤ 140737488351232) :
    Calls Try.prog 18 #[u, .int .u64 a, .int .i64 n] w fun e w' => ∃ v0_ : Value, e = .returned v0_ ∧ Kd.R (Kd.int .u8) 5 w' w0.heap.size (fun k_ => P0_ k_ ∨ w.heap.size ≤ k_) v0_ (l0 ++ leL a n) ∧ Below w0.heap.size w0 w' ∧ Kept w w' P0_ := by
  have HO := Lib.hid ho0
  have HB := Lib.hid hB
  clear ho0 hB
  go_enter Try.func18, Try.ntmps18
  go_wp2_with (at_builtin; refine Kd.R_append_zeros (Kd.int .u8) (w0 := w0) w0.heap.size rfl (.tmp 7) (.tmp 8) 25 3 5 (.int .u8 0) 1 rfl Try.underlying25 Try.underlying3 info5 rfl (by decide) (by omega) u l0 (0 : Int) (n : Int) (fun k_ => P0_ k_ ∨ w.heap.size ≤ k_) rfl rfl rfl (fun k hk => .inr hk) (Kd.R_mono HO.out (fun k hk => .inl hk)) ?c0 HB.out HB.out.size ?c1 ?_)
  case c0 => omega
  case c1 => simp <;> omega
  intro v1 w1 hR hb1 hg hat
  obtain ⟨hown, hrow⟩ := R_own hR
  obtain ⟨_, ⟨_, hz⟩ | ⟨g, cap, cur, rfl, hgb, hcell, hnc, hcm, hcs, htk⟩⟩ := hrow
  · exfalso; simp at hz; omega
  have hm : (l0 ++ List.replicate n (0 : Int)).length = l0.length + n := by simp
  rw [hm] at hnc htk hR hat ⊢
  generalize hM : l0.length + n = m at hnc htk hR hat ⊢
  have m1 : n ≤ m := by omega
  have m2 : m ≤ 140737488351240 := by omega
  unfold maxLen at hcm
  have HM := Lib.hid hM
  have HR := Lib.hid hR
  have HN := Lib.hid hown
  have HG := Lib.hid hg
  have HT := Lib.hid htk
  have HS := Lib.hid hcs
  have HC := Lib.hid hcell
  have HB1 := Lib.hid hb1
  have HA := Lib.hid hat
  clear hM hR hown hg htk hcs hcell hb1 hat hm
  go_wp2_with fail
  rw [show m - (m - n) = n from by omega]
  refine (put_sub g (m - n) n (cap - (m - n)) a cur w1 HC.out (by have := HS.out; omega) n8 a0 a1).mono ?_
  rintro e w2 ⟨rfl, hA⟩
  have HF := Lib.hid hA
  clear hA
  go_wp2_with fail
  go_ret
  have hle : (l0 ++ leL a n).length = m := by simp [leL]; exact HM.out
  refine ⟨_, rfl, own_R ?_ ?_, HF.out.below HB1.out hgb, ?_, ?_⟩
  · intro b hb
    exact HR.out.1 b hb
  · refine ⟨by simp [nums], .inr ⟨g, cap, _, by rw [hle]; rfl, hgb, HF.out.2.2.2.2.2, by rw [hle]; exact hnc, hcm, by rw [fillC_size]; exact HS.out, ?_⟩⟩
    rw [hle]
    exact fill_take cur l0 a n m HM.out (by have := HS.out; omega) HT.out
  · rw [HF.out.2.2.2.1]; exact HG.out.size
  · intro i hi hn
    have hig : i ≠ g := by
      rintro rfl
      rcases HR.out.1 i rfl with h | h
      · exact hn h
      · omega
    rw [HF.out.2.2.2.2.1 i hig]
    exact HG.out.block i hi (fun e => hn ((R_own HO.out).1 i e.symm))
end Rw
end Go.Proofs.Ythcoiomnlcagcaa

namespace Go.Proofs.Ythcoiomnlcagcaa
open Go.RowKit
set_option linter.unusedVariables false
set_option linter.unusedSimpArgs false
namespace Rw
theorem rn_num (n : Int) (w : World) : Calls Try.prog 26 #[.int .i64 n] w fun e w' => e = .returned (.agg #[.int .i64 1, .int .i64 n, .string ⟨#[]⟩, .bool false]) ∧ Below w.heap.size w w' := by
  go_enter Try.func26, Try.ntmps26
  go_wp2
  exact bodyPost_ret (v := .agg #[.int .i64 1, .int .i64 n, .string ⟨#[]⟩, .bool false]) (by simp [results, Try.results26, go_sem]) rfl ⟨rfl, (Below.refl _ _).alloc (Nat.le_refl _) _⟩
theorem rn_text (s : ByteArray) (w : World) : Calls Try.prog 27 #[.string s] w fun e w' => e = .returned (.agg #[.int .i64 2, .int .i64 0, .string s, .bool false]) ∧ Below w.heap.size w w' := by
  go_enter Try.func27, Try.ntmps27
  go_wp2
  exact bodyPost_ret (v := .agg #[.int .i64 2, .int .i64 0, .string s, .bool false]) (by simp [results, Try.results27, go_sem]) rfl ⟨rfl, (Below.refl _ _).alloc (Nat.le_refl _) _⟩
theorem below_to {w w1 : World} {o o2 : Obj} (h : Below ((w.alloc o).alloc o2).heap.size ((w.alloc o).alloc o2) w1) : Below w.heap.size w w1 := by
  have k : Below w.heap.size w ((w.alloc o).alloc o2) := ((Below.refl _ _).alloc (Nat.le_refl _) _).alloc (by simp) _
  exact k.trans (h.mono (by simp; omega))
theorem rb {a b : Bool} (h : a = b) : Ending.returned (.bool a) = .returned (.bool b) := by rw [h]
/-- is a value right? -/
def rightF (k n : Int) (s : ByteArray) (b : Bool) : Bool :=
  if k = 0 then n == 0 && (s.toList == [] && !b) else if k = 1 then s.toList == [] && !b else if k = 2 then n == 0 && !b else if k = 3 then n == 0 && s.toList == [] else false
set_option maxRecDepth 100000 in
set_option maxHeartbeats 1000000 in
theorem right_0 (n : Int) (s : ByteArray) (b : Bool) (w : World) : Calls Try.prog 17 #[.agg #[.int .i64 0, .int .i64 n, .string s, .bool b]] w fun e w' => e = .returned (.bool (rightF 0 n s b)) ∧ Below w.heap.size w w' := by
  generalize hr : rightF 0 n s b = r
  have HR := Lib.hid hr
  clear hr
  go_enter Try.func17, Try.ntmps17
  go_wp2
  all_goals go_ret
  all_goals exact ⟨rb (by have hh := HR.out; clear HR; subst hh; unfold rightF; (first | (simp_all; done) | (cases b <;> simp_all; done) | (rename_i h1; have h2 := beq_eq_false_iff_ne.2 h1; simp only [h2]; simp) | (simp_all [← List.isEmpty_iff]; done))), (by repeat (first | exact Below.refl _ _ | (refine Below.alloc ?_ (by simp <;> omega) _) | (refine Below.setCell ?_ (by simp <;> omega) _)))⟩
set_option maxRecDepth 100000 in
set_option maxHeartbeats 1000000 in
theorem right_1 (n : Int) (s : ByteArray) (b : Bool) (w : World) : Calls Try.prog 17 #[.agg #[.int .i64 1, .int .i64 n, .string s, .bool b]] w fun e w' => e = .returned (.bool (rightF 1 n s b)) ∧ Below w.heap.size w w' := by
  generalize hr : rightF 1 n s b = r
  have HR := Lib.hid hr
  clear hr
  go_enter Try.func17, Try.ntmps17
  go_wp2_with fail
  refine (rn_num _ _).mono ?_
  rintro e w1 ⟨rfl, hb⟩
  have q0 : ∀ i, w1.cell? ⟨w.heap.size, i, none⟩ = _ := fun i => hb.cell (p := ⟨w.heap.size, i, none⟩) (by simp <;> omega)
  have q1 : ∀ i, w1.cell? ⟨w.heap.size + 1, i, none⟩ = _ := fun i => hb.cell (p := ⟨w.heap.size + 1, i, none⟩) (by simp <;> omega)
  have f1 : ∀ i, w1.frozen? ⟨w.heap.size + 1, i, none⟩ = _ := fun i => hb.frozen (p := ⟨w.heap.size + 1, i, none⟩) (by simp <;> omega)
  have hz : w.heap.size + 1 < w1.heap.size := by have := hb.size; simp at this; omega
  have G := Lib.hid hb
  clear hb
  go_wp2_with fail
  all_goals go_ret
  all_goals exact ⟨rb (by have hh := HR.out; clear HR; subst hh; unfold rightF; (first | (simp_all; done) | (cases b <;> simp_all; done) | (rename_i h1; have h2 := beq_eq_false_iff_ne.2 h1; simp only [h2]; simp) | (simp_all [← List.isEmpty_iff]; done))), by (repeat (first | exact below_to G.out | (refine Below.setCell ?_ (by simp) _)))⟩
set_option maxRecDepth 100000 in
set_option maxHeartbeats 1000000 in
theorem right_2 (n : Int) (s : ByteArray) (b : Bool) (w : World) : Calls Try.prog 17 #[.agg #[.int .i64 2, .int .i64 n, .string s, .bool b]] w fun e w' => e = .returned (.bool (rightF 2 n s b)) ∧ Below w.heap.size w w' := by
  generalize hr : rightF 2 n s b = r
  have HR := Lib.hid hr
  clear hr
  go_enter Try.func17, Try.ntmps17
  go_wp2_with fail
  refine (rn_text _ _).mono ?_
  rintro e w1 ⟨rfl, hb⟩
  have q0 : ∀ i, w1.cell? ⟨w.heap.size, i, none⟩ = _ := fun i => hb.cell (p := ⟨w.heap.size, i, none⟩) (by simp <;> omega)
  have q1 : ∀ i, w1.cell? ⟨w.heap.size + 1, i, none⟩ = _ := fun i => hb.cell (p := ⟨w.heap.size + 1, i, none⟩) (by simp <;> omega)
  have f1 : ∀ i, w1.frozen? ⟨w.heap.size + 1, i, none⟩ = _ := fun i => hb.frozen (p := ⟨w.heap.size + 1, i, none⟩) (by simp <;> omega)
  have hz : w.heap.size + 1 < w1.heap.size := by have := hb.size; simp at this; omega
  have G := Lib.hid hb
  clear hb
  go_wp2_with fail
  all_goals go_ret
  all_goals exact ⟨rb (by have hh := HR.out; clear HR; subst hh; unfold rightF; (first | (simp_all; done) | (cases b <;> simp_all; done) | (rename_i h1; have h2 := beq_eq_false_iff_ne.2 h1; simp only [h2]; simp) | (simp_all [← List.isEmpty_iff]; done))), by (repeat (first | exact below_to G.out | (refine Below.setCell ?_ (by simp) _)))⟩
set_option maxRecDepth 100000 in
set_option maxHeartbeats 1000000 in
theorem right_3 (n : Int) (s : ByteArray) (b : Bool) (w : World) : Calls Try.prog 17 #[.agg #[.int .i64 3, .int .i64 n, .string s, .bool b]] w fun e w' => e = .returned (.bool (rightF 3 n s b)) ∧ Below w.heap.size w w' := by
  generalize hr : rightF 3 n s b = r
  have HR := Lib.hid hr
  clear hr
  go_enter Try.func17, Try.ntmps17
  go_wp2
  all_goals go_ret
  all_goals exact ⟨rb (by have hh := HR.out; clear HR; subst hh; unfold rightF; (first | (simp_all; done) | (cases b <;> simp_all; done) | (rename_i h1; have h2 := beq_eq_false_iff_ne.2 h1; simp only [h2]; simp) | (simp_all [← List.isEmpty_iff]; done))), (by repeat (first | exact Below.refl _ _ | (refine Below.alloc ?_ (by simp <;> omega) _) | (refine Below.setCell ?_ (by simp <;> omega) _)))⟩
set_option maxRecDepth 100000 in
theorem right_o (k n : Int) (s : ByteArray) (b : Bool) (w : World) (e0 : (k == 0) = false) (e1 : (k == 1) = false) (e2 : (k == 2) = false) (e3 : (k == 3) = false) : Calls Try.prog 17 #[.agg #[.int .i64 k, .int .i64 n, .string s, .bool b]] w fun e w' => e = .returned (.bool false) ∧ Below w.heap.size w w' := by
  go_enter Try.func17, Try.ntmps17
  go_wp2
  all_goals go_ret
  all_goals exact ⟨rfl, (by repeat (first | exact Below.refl _ _ | (refine Below.alloc ?_ (by simp <;> omega) _) | (refine Below.setCell ?_ (by simp <;> omega) _)))⟩
theorem right_any (k n : Int) (s : ByteArray) (b : Bool) (w : World) : Calls Try.prog 17 #[.agg #[.int .i64 k, .int .i64 n, .string s, .bool b]] w fun e w' => e = .returned (.bool (rightF k n s b)) ∧ Below w.heap.size w w' := by
  by_cases h0 : k = 0
  · subst h0; exact right_0 n s b w
  by_cases h1 : k = 1
  · subst h1; exact right_1 n s b w
  by_cases h2 : k = 2
  · subst h2; exact right_2 n s b w
  by_cases h3 : k = 3
  · subst h3; exact right_3 n s b w
  have e : rightF k n s b = false := by unfold rightF; rw [if_neg h0, if_neg h1, if_neg h2, if_neg h3]
  rw [e]
  exact right_o k n s b w (beq_eq_false_iff_ne.2 h0) (beq_eq_false_iff_ne.2 h1) (beq_eq_false_iff_ne.2 h2) (beq_eq_false_iff_ne.2 h3)
end Rw
end Go.Proofs.Ythcoiomnlcagcaa

namespace Go.Proofs.Ythcoiomnlcagcaa.PRG
open Go.RowKit Go.Proofs.YthcoiomnlcagcaaW.PrintWords Go.Proofs.YthcoiomnlcagcaaW.PrintLast Go.Proofs.YthcoiomnlcagcaaW.PrintMore
attribute [local go_sem] max2_int min2_int max_two min_two max_three min_three max_four min_four   -- for this text's walks alone
set_option linter.unusedVariables false
set_option linter.unusedSimpArgs false



def errW : Option Int → Value
  | none => .nilIface
  | some c => .iface 0 (.int .i64 c)
theorem errW_none : errW none = .nilIface := rfl
theorem errW_some (c : Int) : errW (some c) = .iface 0 (.int .i64 c) := rfl

-- the values' own types

end Go.Proofs.Ythcoiomnlcagcaa.PRG

namespace Go.Proofs.Ythcoiomnlcagcaa.PRG
open Go.RowKit Go.Proofs.YthcoiomnlcagcaaW.PrintWords Go.Proofs.YthcoiomnlcagcaaW.PrintLast Go.Proofs.YthcoiomnlcagcaaW.PrintMore
attribute [local go_sem] max2_int min2_int max_two min_two max_three min_three max_four min_four   -- for this text's walks alone
set_option linter.unusedVariables false
set_option linter.unusedSimpArgs false

/-! ### octets_Get: function 29 -/
def octets_Get.l0 : Nat → List Int → Int → Int → Int → Option (Int)
  | 0, _, _, _, _ => none
  | k + 1, x0, x3, x6, x7 => if x7 < x6 then (if 0 ≤ x7 then (if x7 < (x0.length : Int) then (if 0 ≤ (wrap64 (8 * x7)) then (octets_Get.l0 k x0 (Go.bits .or .u64 x3 (shl .u64 (IntKind.u64.wrap (rd x0 x7)) (wrap64 (8 * x7)))) x6 (wrap64 (x7 + 1))) else (none)) else (none)) else (none)) else (some x3)
def octets_Get.f (k : Nat) (l0 : List Int) : Option (Int) := octets_Get.l0 k l0 0 (l0.length : Int) 0
theorem octets_Get.mono_l : ∀ k, (∀ y0 y1 y2 y3, LeO (octets_Get.l0 k y0 y1 y2 y3) (octets_Get.l0 (k + 1) y0 y1 y2 y3))
  | 0 => fun _ _ _ _ r h => by simp [octets_Get.l0] at h
  | k + 1 => by
    have ih0 := octets_Get.mono_l k
    · intro y0 y1 y2 y3
      unfold octets_Get.l0
      repeat' first
      | (with_reducible exact ih0 _ _ _ _)
      | (with_reducible exact LeO.refl _)
      | (with_reducible exact LeO.none _)
      | (with_reducible refine LeO.ite ?_ ?_)
      | (with_reducible refine LeO.bind ?_ (fun _ => ?_))
      | exact ih0 _ _ _ _
      | exact LeO.none _
      | refine LeO.ite ?_ ?_
      | refine LeO.bind ?_ (fun _ => ?_)
theorem octets_Get.mono : ∀ a0 k, LeO (octets_Get.f k a0) (octets_Get.f (k + 1) a0) := by
  intro a0 k
  have ih0 := octets_Get.mono_l k
  unfold octets_Get.f
  repeat' first
      | (with_reducible exact ih0 _ _ _ _)
      | (with_reducible exact LeO.refl _)
      | (with_reducible exact LeO.none _)
      | (with_reducible refine LeO.ite ?_ ?_)
      | (with_reducible refine LeO.bind ?_ (fun _ => ?_))
      | exact ih0 _ _ _ _
      | exact LeO.none _
      | refine LeO.ite ?_ ?_
      | refine LeO.bind ?_ (fun _ => ?_)
set_option maxHeartbeats 8000000 in
set_option maxRecDepth 100000 in
theorem octets_Get.calls (k : Nat) (A0 : Option Addr) (c0 : Nat) (l0 : List Int) (r : Int) (w : World) (hr0 : Kd.C (Kd.int .u8) w A0 l0.length l0) (hc0 : l0.length ≤ c0) (h : octets_Get.f k l0 = some r) :
    Calls Try.prog 29 #[.slice A0 l0.length c0] w fun e w' => e = .returned (.int .u64 r) ∧ Drawn0 w w' := by
  have HR0 := Aside0.mk hr0
  have HC0 := Aside0.mk hc0
  clear hr0 hc0
  have H : (octets_Get.l0 k l0 0 (l0.length : Int) 0) = some r := h
  clear h
  have H' := Aside0.mk H
  clear H
  go_enter Try.func29, Try.ntmps29
  go_wp2
  go_loopg [3, 7] k (fun kq v3 v7 w' => ∃ (x3_1 : Int) (x7_1 : Int), v3 = .int .u64 x3_1 ∧ v7 = .int .i64 x7_1 ∧ Aside0 (octets_Get.l0 kq l0 x3_1 (l0.length : Int) x7_1 = some r) ∧ Aside0 (kq ≤ k) ∧ Drawn0 w w')
  case atStart => exact ⟨(0), (0), (by first | rfl | (simp; done) | (simp [*]; done)), (by first | rfl | (simp; done) | (simp [*]; done)), H', ⟨Nat.le_refl _⟩, by repeat (first | exact Drawn0.refl _ | apply Drawn0.step)⟩
  case round =>
    clear H'
    obtain ⟨x3_1, x7_1, rfl, rfl, HA, HK1, ⟨m1, rfl⟩⟩ := hrel
    cases gk with
    | zero => exact absurd HA.out (by simp [octets_Get.l0])
    | succ k1 =>
      have H := HA.out
      clear HA
      simp only [octets_Get.l0] at H
      by_cases c2 : x7_1 < (l0.length : Int)
      · rw [if_pos c2] at H
        have c2b0 : decide (x7_1 < (l0.length : Int)) = true := decide_eq_true c2
        clear c2
        by_cases c3 : 0 ≤ x7_1
        · rw [if_pos c3] at H
          have c3b0 : decide (0 ≤ x7_1) = true := decide_eq_true c3
          clear c3
          by_cases c4 : x7_1 < (l0.length : Int)
          · rw [if_pos c4] at H
            have c4b0 : decide (x7_1 < (l0.length : Int)) = true := decide_eq_true c4
            clear c4
            obtain ⟨ji5, hji5⟩ : ∃ j_ : Int, (wrap64 (8 * x7_1)) = j_ := ⟨_, rfl⟩
            replace H : (if 0 ≤ (ji5) then (octets_Get.l0 k1 l0 (Go.bits .or .u64 x3_1 (shl .u64 (IntKind.u64.wrap (rd l0 x7_1)) (ji5))) (l0.length : Int) (wrap64 (x7_1 + 1))) else (none)) = some r := by first | (rw [hji5] at H; exact H) | (simp only [hji5] at H ⊢; exact H)
            have hji5w : (IntKind.i64.wrap (8 * x7_1)) = ji5 := (i64_w _).trans hji5
            by_cases c6 : 0 ≤ (ji5)
            · rw [if_pos c6] at H
              have c6b0 := eq_true c6
              have c6b1 : decide (0 ≤ (ji5)) = true := decide_eq_true c6
              clear c6
              obtain ⟨ji7, hji7⟩ : ∃ j_ : Int, (shl .u64 (IntKind.u64.wrap (rd l0 x7_1)) (ji5)) = j_ := ⟨_, rfl⟩
              replace H : (octets_Get.l0 k1 l0 (Go.bits .or .u64 x3_1 (ji7)) (l0.length : Int) (wrap64 (x7_1 + 1))) = some r := by first | (rw [hji7] at H; exact H) | (simp only [hji7] at H ⊢; exact H)
              have hji7_ : (IntKind.u64.wrap ((IntKind.u64.wrap (rd l0 x7_1)) * 2 ^ min (ji5).toNat 64)) = ji7 := hji7
              have hji7z : (ji5) ≤ 64 → (IntKind.u64.wrap ((IntKind.u64.wrap (rd l0 x7_1)) * 2 ^ (ji5).toNat)) = ji7 := shl_small hji7
              have H' := Aside0.mk H
              clear H
              have p101 : 0 ≤ (x7_1 : Int) := of_decide_eq_true (by first | (with_reducible assumption) | assumption)
              have q101 : x7_1 < (l0.length : Int) := of_decide_eq_true (by first | (with_reducible assumption) | assumption)
              obtain ⟨ad101, e101, hx101_0⟩ := Kd.at_int HR0.out x7_1 p101 q101
              cases e101
              replace p101 := eq_true p101
              replace q101 := eq_true q101
              go_wp2
              go_roundg k1
              case measure => have := HK1.out; omega
              case rel => exact ⟨(Go.bits .or .u64 x3_1 (ji7)), (wrap64 (x7_1 + 1)), (by first | rfl | (simp; done) | (simp only [← hji7] <;> (first | rfl | simp)) | (simp [*]; done)), (by first | rfl | (simp; done) | (simp [*]; done)), H', ⟨by have := HK1.out; omega⟩, by repeat (first | exact Drawn0.refl _ | apply Drawn0.step)⟩
            · rw [if_neg c6] at H
              exact absurd H (by simp)
          · rw [if_neg c4] at H
            exact absurd H (by simp)
        · rw [if_neg c3] at H
          exact absurd H (by simp)
      · rw [if_neg c2] at H
        have c2b0 : decide (x7_1 < (l0.length : Int)) = false := decide_eq_false c2
        clear c2
        obtain rfl := Option.some.inj H
        go_wp2
        go_ret
        exact ⟨by first | rfl | (simp; done) | (simp [*]; done), by repeat (first | exact Drawn0.refl _ | apply Drawn0.step)⟩

end Go.Proofs.Ythcoiomnlcagcaa.PRG

namespace Go.Proofs.Ythcoiomnlcagcaa
open Go.RowKit Go.Proofs.Ythcoiomnlcagcaa.PRG Go.Proofs.YthcoiomnlcagcaaW.PrintWords Go.Proofs.YthcoiomnlcagcaaW.PrintLast
set_option linter.unusedVariables false
set_option linter.unusedSimpArgs false
namespace Rw
/-- the reader at block G: what is left of bytes that came in by w0 -/
def Rd (w0 w : World) (G : Nat) (l : List Int) : Prop := ∃ A c, w.heap[G]? = some (.cells #[.slice A l.length c] 54 (0, 0)) ∧ l.length ≤ c ∧ True ∧ l.length ≤ 140800000000000 ∧ Kd.C (Kd.int .u8) w0 A l.length l
/-- w' is w, but for block G -/
def But (w : World) (G : Nat) (w' : World) : Prop := w'.os = w.os ∧ w'.tape = w.tape ∧ w'.output = w.output ∧ w'.heap.size = w.heap.size ∧ (∀ i, i ≠ G → w'.heap[i]? = w.heap[i]?)
abbrev brk : List PanicEntry := [{ v := .iface 50 (.agg #[]), recovered := false }]
theorem take_no (w0 w : World) (G : Nat) (l : List Int) (n : Nat) (h : Rd w0 w G l) (hn : l.length < n) (hm : n ≤ 1000) :
    Calls Try.prog 21 #[.pointer (some ⟨G, 0, none⟩), .int .i64 n] w fun e w' => e = .panicked brk ∧ w = w' := by
  obtain ⟨A0, c, hb, hc, hx, hl, hC⟩ := h
  have c0 : w.cell? ⟨G, 0, none⟩ = some (.slice A0 l.length c) := by simp [World.cell?, hb]
  have HB := Lib.hid hb
  have HC := Lib.hid hC
  clear hb hC hx
  go_enter Try.func21, Try.ntmps21
  go_wp2
  exact ⟨rfl, rfl, rfl⟩
theorem C_take {w : World} {A : Option Addr} {l : List Int} (h : Kd.C (Kd.int .u8) w A l.length l) (n : Nat) (hn : n ≤ l.length) : Kd.C (Kd.int .u8) w A (l.take n).length (l.take n) := by
  have h1 := Kd.reads_of_C (d := 0) h
  have h2 := h1.take_ n hn
  have e : (l.take n).length = n := by rw [List.length_take]; omega
  rw [e]
  exact Kd.C_of_reads (d := 0) (h1 := fun _ => rfl) h2
set_option maxHeartbeats 1000000 in
theorem take_yes (w0 w : World) (G : Nat) (l : List Int) (n : Nat) (h : Rd w0 w G l) (hn : n ≤ l.length) (hm : n ≤ 1000) :
    Calls Try.prog 21 #[.pointer (some ⟨G, 0, none⟩), .int .i64 n] w fun e w' => ∃ A0 c, e = .returned (.slice A0 n c) ∧ n ≤ c ∧ Kd.C (Kd.int .u8) w0 A0 (l.take n).length (l.take n) ∧ Rd w0 w' G (l.drop n) ∧ But w G w' := by
  obtain ⟨A0, c, hb, hc, hx, hl, hC⟩ := h
  have c0 : w.cell? ⟨G, 0, none⟩ = some (.slice A0 l.length c) := by simp [World.cell?, hb]
  have f0 : w.frozen? ⟨G, 0, none⟩ = false := by simp [World.frozen?, hb]
  obtain ⟨i0, hi0, hz0⟩ : ∃ i, Try.prog.info? 5 = some i ∧ i.size = 1 := by
    have h := info5
    cases hq : Try.prog.info? 5 with
    | none => rw [hq] at h; simp at h
    | some i => rw [hq] at h; simp at h; exact ⟨i, rfl, h.2.1⟩
  obtain ⟨A1, hcut, hA1, hn1⟩ := print_drop_of (P := Try.prog) (Value.int .u8) 0 25 5 .i64 Try.underlying25 hi0 hz0 A0 c l (n : Int) (by omega) (by omega) hc
  have HA1 := Lib.hid hA1
  have HN1 := Lib.hid hn1
  have HB := Lib.hid hb
  have HC := Lib.hid hC
  clear hb hC hA1 hi0 hz0 hn1
  have hl1 : (l.drop n).length = l.length - n := List.length_drop
  simp only [Int.toNat_natCast, hl1] at hcut
  clear hx
  have HL := Lib.hid hl1
  clear hl1
  go_enter Try.func21, Try.ntmps21
  go_wp2
  go_ret
  refine ⟨A0, c, rfl, by omega, C_take HC.out n hn, ⟨A1, c - n, ?_, ?_, ?_, ?_, ?_⟩, rfl, rfl, rfl, ?_, ?_⟩
  · simp [World.setCell, Array.getElem?_modify, HB.out]
  · rw [HL.out]; omega
  · trivial
  · rw [HL.out]; omega
  · exact Kd.C_of_reads (d := 0) (h1 := fun _ => rfl) (by simpa using HA1.out w0 (Kd.reads_of_C (d := 0) HC.out))
  · simp [World.setCell]
  · intro i hi
    simp [World.setCell, Array.getElem?_modify, Ne.symm hi]
theorem Rd.other {w0 w w1 : World} {G : Nat} {l : List Int} (h : Rd w0 w G l) (e : w1.heap[G]? = w.heap[G]?) : Rd w0 w1 G l := by
  obtain ⟨A0, c, hb, r⟩ := h
  exact ⟨A0, c, e.trans hb, r⟩
theorem C_at {w : World} {A : Option Addr} {n : Nat} {l : List Int} (h : Kd.C (Kd.int .u8) w A n l) (i : Nat) (hi : i < n) : ∃ ad, A = some ad ∧ w.cell? (ad.add i) = some (.int .u8 (l.getD i 0)) := by
  obtain ⟨ad, e, hc⟩ := (Kd.reads_of_C (d := 0) h).at_ (i : Int) (by omega) (by omega)
  exact ⟨ad, e, by simpa [rdOf] using hc⟩
end Rw
end Go.Proofs.Ythcoiomnlcagcaa

namespace Go.Proofs.Ythcoiomnlcagcaa
open Go.RowKit Go.Proofs.Ythcoiomnlcagcaa.PRG Go.Proofs.YthcoiomnlcagcaaW.PrintWords Go.Proofs.YthcoiomnlcagcaaW.PrintLast
set_option linter.unusedVariables false
set_option linter.unusedSimpArgs false
namespace Rw
/-- a number out of bytes -/
def getF (l : List Int) : Option Int := octets_Get.f (l.length + 2) l
inductive Out where
  | bad
  | val (k n : Int) (s : ByteArray) (b : Bool) (rest : List Int)
def valD : List Int → Option Out
  | [] => some .bad
  | c :: r =>
    if c = 0 then some (.val 0 0 ⟨#[]⟩ false r)
    else if c = 1 then (if r.length < 8 then some .bad else (getF (r.take 8)).map fun u => .val 1 (wrap64 u) ⟨#[]⟩ false (r.drop 8))
    else if c = 2 then (if r.length < 2 then some .bad else (getF (r.take 2)).bind fun u => if u < 0 ∨ 9223372036854775807 < u then none else if 400 < u then some .bad else if (r.length : Int) - 2 < u then some .bad else some (.val 2 0 (strOfNums ((r.drop 2).take u.toNat)) false ((r.drop 2).drop u.toNat)))
    else if c = 3 then some (.val 3 0 ⟨#[]⟩ false r)
    else if c = 4 then some (.val 3 0 ⟨#[]⟩ true r)
    else some .bad
/-- w' is w, but for block G and what was made since -/
def Grow (w : World) (G : Nat) (w' : World) : Prop := w'.os = w.os ∧ w'.tape = w.tape ∧ w'.output = w.output ∧ w.heap.size ≤ w'.heap.size ∧ (∀ i, i < w.heap.size → i ≠ G → w'.heap[i]? = w.heap[i]?)
def ValPost (w0 w : World) (G : Nat) (o : Out) (e : Ending) (w' : World) : Prop :=
  Grow w G w' ∧ match o with
    | .bad => e = .panicked brk
    | .val k n s b rest => e = .returned (.agg #[.int .i64 k, .int .i64 n, .string s, .bool b]) ∧ Rd w0 w' G rest
theorem Grow.refl (w : World) (G : Nat) : Grow w G w := ⟨rfl, rfl, rfl, Nat.le_refl _, fun _ _ _ => rfl⟩
theorem Grow.but {w W W1 : World} {G : Nat} (h : Grow w G W) (k : But W G W1) : Grow w G W1 := by
  obtain ⟨a1, a2, a3, a4, a5⟩ := h
  obtain ⟨b1, b2, b3, b4, b5⟩ := k
  exact ⟨b1.trans a1, b2.trans a2, b3.trans a3, by omega, fun i hi hn => (b5 i hn).trans (a5 i hi hn)⟩
theorem Grow.below {w W W1 : World} {G : Nat} (h : Grow w G W) (k : Below W.heap.size W W1) : Grow w G W1 := by
  obtain ⟨a1, a2, a3, a4, a5⟩ := h
  exact ⟨k.os.trans a1, k.tape.trans a2, k.output.trans a3, Nat.le_trans a4 k.size, fun i hi hn => (k.block i (by omega)).trans (a5 i hi hn)⟩
theorem Grow.alloc {w W : World} {G : Nat} (h : Grow w G W) (o : Obj) : Grow w G (W.alloc o) := h.below ((Below.refl _ _).alloc (Nat.le_refl _) o)
theorem Grow.drew {w W : World} {G : Nat} (h : Grow w G W) : Grow w G W.drew := h.below ((Below.refl _ _).drew)
theorem Grow.drewN {w W : World} {G : Nat} (h : Grow w G W) (n : Nat) : Grow w G (W.drewN n) := h.below ⟨rfl, rfl, rfl, Nat.le_refl _, fun _ _ => rfl⟩
theorem Grow.set {w W : World} {G : Nat} (h : Grow w G W) {p : Addr} (hp : w.heap.size ≤ p.block) (v : Value) : Grow w G (W.setCell p v) := by
  obtain ⟨a1, a2, a3, a4, a5⟩ := h
  exact ⟨a1, a2, a3, by simpa [World.setCell] using a4, fun i hi hn => by rw [← a5 i hi hn]; simp [World.setCell, Array.getElem?_modify]; intro e; omega⟩
theorem Rd.below {w0 w w1 : World} {G : Nat} {l : List Int} (h : Rd w0 w G l) (k : Below w.heap.size w w1) : Rd w0 w1 G l := by
  obtain ⟨A0, c, hb, r⟩ := h
  exact ⟨A0, c, (k.block G (Array.getElem?_eq_some_iff.1 hb).1).trans hb, r⟩
theorem Rd.alloc {w0 w : World} {G : Nat} {l : List Int} (h : Rd w0 w G l) (o : Obj) : Rd w0 (w.alloc o) G l := h.below ((Below.refl _ _).alloc (Nat.le_refl _) o)
theorem Rd.drew {w0 w : World} {G : Nat} {l : List Int} (h : Rd w0 w G l) : Rd w0 w.drew G l := h
theorem Rd.drewN {w0 w : World} {G : Nat} {l : List Int} (h : Rd w0 w G l) (n : Nat) : Rd w0 (w.drewN n) G l := h
theorem Rd.set {w0 w : World} {G : Nat} {l : List Int} (h : Rd w0 w G l) {p : Addr} (hp : p.block ≠ G) (v : Value) : Rd w0 (w.setCell p v) G l :=
  h.other (by simp [World.setCell, Array.getElem?_modify]; intro e; exact absurd e hp)
theorem Rd.lt {w0 w : World} {G : Nat} {l : List Int} (h : Rd w0 w G l) : G < w.heap.size := by obtain ⟨_, _, hb, _⟩ := h; exact (Array.getElem?_eq_some_iff.1 hb).1
theorem Grow.blw {w0 w W : World} {G : Nat} (h : Grow w G W) (hB : Below w0.heap.size w0 w) (hG : w0.heap.size ≤ G) : Below w0.heap.size w0 W := by
  obtain ⟨a1, a2, a3, a4, a5⟩ := h
  exact ⟨a1.trans hB.os, a2.trans hB.tape, a3.trans hB.output, Nat.le_trans hB.size a4, fun i hi => (a5 i (Nat.lt_of_lt_of_le hi hB.size) (by omega)).trans (hB.block i hi)⟩
abbrev zb : Obj := .cells #[.int .i64 0, .int .i64 0, .string ⟨#[]⟩, .bool false] 40
theorem zb_new (w : World) : (w.alloc zb).heap[w.heap.size]? = some zb := by show (w.heap.push _)[_]? = _; simp
/-- what the first take leaves -/
theorem first {w0 w w1 : World} {G : Nat} {c : Int} {A1 : Option Addr} (hGw : G < w.heap.size) (hB : Below w0.heap.size w0 w) (hG : w0.heap.size ≤ G) (hC : Kd.C (Kd.int .u8) w0 A1 1 [c]) (hb : But (w.alloc zb) G w1) :
    ∃ ad, A1 = some ad ∧ w1.cell? ad = some (.int .u8 c) ∧ w1.heap[w.heap.size]? = some zb ∧ Grow w G w1 := by
  have g1 : Grow w G w1 := ((Grow.refl w G).alloc zb).but hb
  obtain ⟨ad, e, h1⟩ := C_at (Kd.C_below hC (g1.blw hB hG)) 0 (by omega)
  have ea : ad.add 0 = ad := by simp [Addr.add]
  rw [ea] at h1
  exact ⟨ad, e, h1, (hb.2.2.2.2 _ (by omega)).trans (zb_new w), g1⟩
set_option maxHeartbeats 1000000 in
set_option maxRecDepth 100000 in
theorem value_0 (w0 w : World) (G : Nat) (r : List Int) (hR : Rd w0 w G (0 :: r)) (hB : Below w0.heap.size w0 w) (hG : w0.heap.size ≤ G) : Calls Try.prog 22 #[.pointer (some ⟨G, 0, none⟩)] w (ValPost w0 w G (.val 0 0 ⟨#[]⟩ false r)) := by
  have hGw := hR.lt
  have HR := Lib.hid hR
  have HB := Lib.hid hB
  clear hR hB
  go_enter Try.func22, Try.ntmps22
  go_wp2_with fail
  refine (take_yes w0 _ G (0 :: r) 1 (HR.out.alloc _) (by simp) (by omega)).mono ?_
  rintro e w1 ⟨A1, c1, rfl, hc1, hC1, hR1, hBut⟩
  obtain ⟨ad, rfl, hd, hz, hg1⟩ := first hGw HB.out hG hC1 hBut
  simp only [List.drop_succ_cons, List.drop_zero] at hR1
  have HR1 := Lib.hid hR1
  have HG1 := Lib.hid hg1
  have q0 : w1.cell? ⟨w.heap.size, 0, none⟩ = some (.int .i64 0) := by simp [World.cell?, hz]
  have q1 : w1.cell? ⟨w.heap.size, 1, none⟩ = some (.int .i64 0) := by simp [World.cell?, hz]
  have q2 : w1.cell? ⟨w.heap.size, 2, none⟩ = some (.string ⟨#[]⟩) := by simp [World.cell?, hz]
  have q3 : w1.cell? ⟨w.heap.size, 3, none⟩ = some (.bool false) := by simp [World.cell?, hz]
  have f0 : w1.frozen? ⟨w.heap.size, 0, none⟩ = false := by simp [World.frozen?, hz]
  have f1 : w1.frozen? ⟨w.heap.size, 1, none⟩ = false := by simp [World.frozen?, hz]
  have f2 : w1.frozen? ⟨w.heap.size, 2, none⟩ = false := by simp [World.frozen?, hz]
  have f3 : w1.frozen? ⟨w.heap.size, 3, none⟩ = false := by simp [World.frozen?, hz]
  have hs1 : w.heap.size < w1.heap.size := (Array.getElem?_eq_some_iff.1 hz).1
  have hne : ¬ w.heap.size = G := by omega
  have HZ := Lib.hid hz
  clear hC1 hR1 hBut hz hg1
  go_wp2_with fail
  exact bodyPost_ret (v := .agg #[.int .i64 0, .int .i64 0, .string ⟨#[]⟩, .bool false]) (by simp [results, Try.results22, go_sem, q0, q1, q2, q3]) rfl ⟨(by (repeat (first | (with_reducible apply Grow.alloc) | (with_reducible apply Grow.drew) | (with_reducible apply Grow.drewN) | (with_reducible refine Grow.set ?_ (by simp <;> omega) _))); exact HG1.out), rfl, (by (repeat (first | (with_reducible apply Rd.alloc) | (with_reducible apply Rd.drew) | (with_reducible apply Rd.drewN) | (with_reducible refine Rd.set ?_ (by simp <;> omega) _))); exact HR1.out)⟩
set_option maxHeartbeats 1000000 in
set_option maxRecDepth 100000 in
theorem value_3 (w0 w : World) (G : Nat) (r : List Int) (hR : Rd w0 w G (3 :: r)) (hB : Below w0.heap.size w0 w) (hG : w0.heap.size ≤ G) : Calls Try.prog 22 #[.pointer (some ⟨G, 0, none⟩)] w (ValPost w0 w G (.val 3 0 ⟨#[]⟩ false r)) := by
  have hGw := hR.lt
  have HR := Lib.hid hR
  have HB := Lib.hid hB
  clear hR hB
  go_enter Try.func22, Try.ntmps22
  go_wp2_with fail
  refine (take_yes w0 _ G (3 :: r) 1 (HR.out.alloc _) (by simp) (by omega)).mono ?_
  rintro e w1 ⟨A1, c1, rfl, hc1, hC1, hR1, hBut⟩
  obtain ⟨ad, rfl, hd, hz, hg1⟩ := first hGw HB.out hG hC1 hBut
  simp only [List.drop_succ_cons, List.drop_zero] at hR1
  have HR1 := Lib.hid hR1
  have HG1 := Lib.hid hg1
  have q0 : w1.cell? ⟨w.heap.size, 0, none⟩ = some (.int .i64 0) := by simp [World.cell?, hz]
  have q1 : w1.cell? ⟨w.heap.size, 1, none⟩ = some (.int .i64 0) := by simp [World.cell?, hz]
  have q2 : w1.cell? ⟨w.heap.size, 2, none⟩ = some (.string ⟨#[]⟩) := by simp [World.cell?, hz]
  have q3 : w1.cell? ⟨w.heap.size, 3, none⟩ = some (.bool false) := by simp [World.cell?, hz]
  have f0 : w1.frozen? ⟨w.heap.size, 0, none⟩ = false := by simp [World.frozen?, hz]
  have f1 : w1.frozen? ⟨w.heap.size, 1, none⟩ = false := by simp [World.frozen?, hz]
  have f2 : w1.frozen? ⟨w.heap.size, 2, none⟩ = false := by simp [World.frozen?, hz]
  have f3 : w1.frozen? ⟨w.heap.size, 3, none⟩ = false := by simp [World.frozen?, hz]
  have hs1 : w.heap.size < w1.heap.size := (Array.getElem?_eq_some_iff.1 hz).1
  have hne : ¬ w.heap.size = G := by omega
  have HZ := Lib.hid hz
  clear hC1 hR1 hBut hz hg1
  go_wp2_with fail
  exact bodyPost_ret (v := .agg #[.int .i64 3, .int .i64 0, .string ⟨#[]⟩, .bool false]) (by simp [results, Try.results22, go_sem, q0, q1, q2, q3]) rfl ⟨(by (repeat (first | (with_reducible apply Grow.alloc) | (with_reducible apply Grow.drew) | (with_reducible apply Grow.drewN) | (with_reducible refine Grow.set ?_ (by simp <;> omega) _))); exact HG1.out), rfl, (by (repeat (first | (with_reducible apply Rd.alloc) | (with_reducible apply Rd.drew) | (with_reducible apply Rd.drewN) | (with_reducible refine Rd.set ?_ (by simp <;> omega) _))); exact HR1.out)⟩
set_option maxHeartbeats 1000000 in
set_option maxRecDepth 100000 in
theorem value_4 (w0 w : World) (G : Nat) (r : List Int) (hR : Rd w0 w G (4 :: r)) (hB : Below w0.heap.size w0 w) (hG : w0.heap.size ≤ G) : Calls Try.prog 22 #[.pointer (some ⟨G, 0, none⟩)] w (ValPost w0 w G (.val 3 0 ⟨#[]⟩ true r)) := by
  have hGw := hR.lt
  have HR := Lib.hid hR
  have HB := Lib.hid hB
  clear hR hB
  go_enter Try.func22, Try.ntmps22
  go_wp2_with fail
  refine (take_yes w0 _ G (4 :: r) 1 (HR.out.alloc _) (by simp) (by omega)).mono ?_
  rintro e w1 ⟨A1, c1, rfl, hc1, hC1, hR1, hBut⟩
  obtain ⟨ad, rfl, hd, hz, hg1⟩ := first hGw HB.out hG hC1 hBut
  simp only [List.drop_succ_cons, List.drop_zero] at hR1
  have HR1 := Lib.hid hR1
  have HG1 := Lib.hid hg1
  have q0 : w1.cell? ⟨w.heap.size, 0, none⟩ = some (.int .i64 0) := by simp [World.cell?, hz]
  have q1 : w1.cell? ⟨w.heap.size, 1, none⟩ = some (.int .i64 0) := by simp [World.cell?, hz]
  have q2 : w1.cell? ⟨w.heap.size, 2, none⟩ = some (.string ⟨#[]⟩) := by simp [World.cell?, hz]
  have q3 : w1.cell? ⟨w.heap.size, 3, none⟩ = some (.bool false) := by simp [World.cell?, hz]
  have f0 : w1.frozen? ⟨w.heap.size, 0, none⟩ = false := by simp [World.frozen?, hz]
  have f1 : w1.frozen? ⟨w.heap.size, 1, none⟩ = false := by simp [World.frozen?, hz]
  have f2 : w1.frozen? ⟨w.heap.size, 2, none⟩ = false := by simp [World.frozen?, hz]
  have f3 : w1.frozen? ⟨w.heap.size, 3, none⟩ = false := by simp [World.frozen?, hz]
  have hs1 : w.heap.size < w1.heap.size := (Array.getElem?_eq_some_iff.1 hz).1
  have hne : ¬ w.heap.size = G := by omega
  have HZ := Lib.hid hz
  clear hC1 hR1 hBut hz hg1
  go_wp2_with fail
  exact bodyPost_ret (v := .agg #[.int .i64 3, .int .i64 0, .string ⟨#[]⟩, .bool true]) (by simp [results, Try.results22, go_sem, q0, q1, q2, q3]) rfl ⟨(by (repeat (first | (with_reducible apply Grow.alloc) | (with_reducible apply Grow.drew) | (with_reducible apply Grow.drewN) | (with_reducible refine Grow.set ?_ (by simp <;> omega) _))); exact HG1.out), rfl, (by (repeat (first | (with_reducible apply Rd.alloc) | (with_reducible apply Rd.drew) | (with_reducible apply Rd.drewN) | (with_reducible refine Rd.set ?_ (by simp <;> omega) _))); exact HR1.out)⟩
end Rw
end Go.Proofs.Ythcoiomnlcagcaa

namespace Go.Proofs.Ythcoiomnlcagcaa
open Go.RowKit Go.Proofs.Ythcoiomnlcagcaa.PRG Go.Proofs.YthcoiomnlcagcaaW.PrintWords Go.Proofs.YthcoiomnlcagcaaW.PrintLast
set_option linter.unusedVariables false
set_option linter.unusedSimpArgs false
namespace Rw
theorem get_at (A0 : Option Addr) (c n : Nat) (l : List Int) (u : Int) (w0 w : World) (hl : l.length = n) (hn : n ≤ c) (hC : Kd.C (Kd.int .u8) w0 A0 l.length l) (hB : Below w0.heap.size w0 w) (h : getF l = some u) :
    Calls Try.prog 29 #[.slice A0 n c] w fun e w' => e = .returned (.int .u64 u) ∧ Drawn0 w w' := by
  subst hl
  exact octets_Get.calls _ A0 c l u w (Kd.C_below hC hB) hn h
set_option maxHeartbeats 1000000 in
set_option maxRecDepth 100000 in
theorem value_nil (w0 w : World) (G : Nat) (hR : Rd w0 w G ([])) (hB : Below w0.heap.size w0 w) (hG : w0.heap.size ≤ G) : Calls Try.prog 22 #[.pointer (some ⟨G, 0, none⟩)] w (ValPost w0 w G (.bad)) := by
  have hGw := hR.lt
  have HR := Lib.hid hR
  clear hR hB
  go_enter Try.func22, Try.ntmps22
  go_wp2_with fail
  refine (take_no w0 _ G [] 1 (HR.out.alloc _) (by simp) (by omega)).mono ?_
  rintro e w1 ⟨rfl, rfl⟩
  have HG1 := Lib.hid (Grow.refl w G)
  go_wp2_with fail
  exact ⟨rfl, (by (repeat (first | (with_reducible apply Grow.alloc) | (with_reducible apply Grow.drew) | (with_reducible apply Grow.drewN) | (with_reducible refine Grow.set ?_ (by simp <;> omega) _))); exact HG1.out), rfl⟩
set_option maxHeartbeats 1000000 in
set_option maxRecDepth 100000 in
theorem value_other (w0 w : World) (G : Nat) (c : Int) (r : List Int) (hR : Rd w0 w G (c :: r)) (hB : Below w0.heap.size w0 w) (hG : w0.heap.size ≤ G) (e0 : (c == 0) = false) (e1 : (c == 1) = false) (e2 : (c == 2) = false) (e3 : (c == 3) = false) (e4 : (c == 4) = false) : Calls Try.prog 22 #[.pointer (some ⟨G, 0, none⟩)] w (ValPost w0 w G (.bad)) := by
  have hGw := hR.lt
  have HR := Lib.hid hR
  have HB := Lib.hid hB
  clear hR hB
  go_enter Try.func22, Try.ntmps22
  go_wp2_with fail
  refine (take_yes w0 _ G (c :: r) 1 (HR.out.alloc _) (by simp) (by omega)).mono ?_
  rintro e w1 ⟨A1, c1, rfl, hc1, hC1, hR1, hBut⟩
  obtain ⟨ad, rfl, hd, hz, hg1⟩ := first hGw HB.out hG hC1 hBut
  simp only [List.drop_succ_cons, List.drop_zero] at hR1
  have HR1 := Lib.hid hR1
  have HG1 := Lib.hid hg1
  have q0 : w1.cell? ⟨w.heap.size, 0, none⟩ = some (.int .i64 0) := by simp [World.cell?, hz]
  have q1 : w1.cell? ⟨w.heap.size, 1, none⟩ = some (.int .i64 0) := by simp [World.cell?, hz]
  have q2 : w1.cell? ⟨w.heap.size, 2, none⟩ = some (.string ⟨#[]⟩) := by simp [World.cell?, hz]
  have q3 : w1.cell? ⟨w.heap.size, 3, none⟩ = some (.bool false) := by simp [World.cell?, hz]
  have f0 : w1.frozen? ⟨w.heap.size, 0, none⟩ = false := by simp [World.frozen?, hz]
  have f1 : w1.frozen? ⟨w.heap.size, 1, none⟩ = false := by simp [World.frozen?, hz]
  have f2 : w1.frozen? ⟨w.heap.size, 2, none⟩ = false := by simp [World.frozen?, hz]
  have f3 : w1.frozen? ⟨w.heap.size, 3, none⟩ = false := by simp [World.frozen?, hz]
  have hs1 : w.heap.size < w1.heap.size := (Array.getElem?_eq_some_iff.1 hz).1
  have hne : ¬ w.heap.size = G := by omega
  have HZ := Lib.hid hz
  clear hC1 hR1 hBut hz hg1
  go_wp2_with fail
  exact ⟨rfl, (by (repeat (first | (with_reducible apply Grow.alloc) | (with_reducible apply Grow.drew) | (with_reducible apply Grow.drewN) | (with_reducible refine Grow.set ?_ (by simp <;> omega) _))); exact HG1.out), rfl⟩
set_option maxHeartbeats 1000000 in
set_option maxRecDepth 100000 in
theorem value_1n (w0 w : World) (G : Nat) (r : List Int) (hR : Rd w0 w G (1 :: r)) (hB : Below w0.heap.size w0 w) (hG : w0.heap.size ≤ G) (h8 : r.length < 8) : Calls Try.prog 22 #[.pointer (some ⟨G, 0, none⟩)] w (ValPost w0 w G (.bad)) := by
  have hGw := hR.lt
  have HR := Lib.hid hR
  have HB := Lib.hid hB
  clear hR hB
  go_enter Try.func22, Try.ntmps22
  go_wp2_with fail
  refine (take_yes w0 _ G (1 :: r) 1 (HR.out.alloc _) (by simp) (by omega)).mono ?_
  rintro e w1 ⟨A1, c1, rfl, hc1, hC1, hR1, hBut⟩
  obtain ⟨ad, rfl, hd, hz, hg1⟩ := first hGw HB.out hG hC1 hBut
  simp only [List.drop_succ_cons, List.drop_zero] at hR1
  have HR1 := Lib.hid hR1
  have HG1 := Lib.hid hg1
  have q0 : w1.cell? ⟨w.heap.size, 0, none⟩ = some (.int .i64 0) := by simp [World.cell?, hz]
  have q1 : w1.cell? ⟨w.heap.size, 1, none⟩ = some (.int .i64 0) := by simp [World.cell?, hz]
  have q2 : w1.cell? ⟨w.heap.size, 2, none⟩ = some (.string ⟨#[]⟩) := by simp [World.cell?, hz]
  have q3 : w1.cell? ⟨w.heap.size, 3, none⟩ = some (.bool false) := by simp [World.cell?, hz]
  have f0 : w1.frozen? ⟨w.heap.size, 0, none⟩ = false := by simp [World.frozen?, hz]
  have f1 : w1.frozen? ⟨w.heap.size, 1, none⟩ = false := by simp [World.frozen?, hz]
  have f2 : w1.frozen? ⟨w.heap.size, 2, none⟩ = false := by simp [World.frozen?, hz]
  have f3 : w1.frozen? ⟨w.heap.size, 3, none⟩ = false := by simp [World.frozen?, hz]
  have hs1 : w.heap.size < w1.heap.size := (Array.getElem?_eq_some_iff.1 hz).1
  have hne : ¬ w.heap.size = G := by omega
  have HZ := Lib.hid hz
  clear hC1 hR1 hBut hz hg1
  go_wp2_with fail
  refine (take_no w0 _ G r 8 HR1.out h8 (by omega)).mono ?_
  rintro e w2 ⟨rfl, rfl⟩
  go_wp2_with fail
  exact ⟨rfl, (by (repeat (first | (with_reducible apply Grow.alloc) | (with_reducible apply Grow.drew) | (with_reducible apply Grow.drewN) | (with_reducible refine Grow.set ?_ (by simp <;> omega) _))); exact HG1.out), rfl⟩
set_option maxHeartbeats 1000000 in
set_option maxRecDepth 100000 in
theorem value_2n (w0 w : World) (G : Nat) (r : List Int) (hR : Rd w0 w G (2 :: r)) (hB : Below w0.heap.size w0 w) (hG : w0.heap.size ≤ G) (h8 : r.length < 2) : Calls Try.prog 22 #[.pointer (some ⟨G, 0, none⟩)] w (ValPost w0 w G (.bad)) := by
  have hGw := hR.lt
  have HR := Lib.hid hR
  have HB := Lib.hid hB
  clear hR hB
  go_enter Try.func22, Try.ntmps22
  go_wp2_with fail
  refine (take_yes w0 _ G (2 :: r) 1 (HR.out.alloc _) (by simp) (by omega)).mono ?_
  rintro e w1 ⟨A1, c1, rfl, hc1, hC1, hR1, hBut⟩
  obtain ⟨ad, rfl, hd, hz, hg1⟩ := first hGw HB.out hG hC1 hBut
  simp only [List.drop_succ_cons, List.drop_zero] at hR1
  have HR1 := Lib.hid hR1
  have HG1 := Lib.hid hg1
  have q0 : w1.cell? ⟨w.heap.size, 0, none⟩ = some (.int .i64 0) := by simp [World.cell?, hz]
  have q1 : w1.cell? ⟨w.heap.size, 1, none⟩ = some (.int .i64 0) := by simp [World.cell?, hz]
  have q2 : w1.cell? ⟨w.heap.size, 2, none⟩ = some (.string ⟨#[]⟩) := by simp [World.cell?, hz]
  have q3 : w1.cell? ⟨w.heap.size, 3, none⟩ = some (.bool false) := by simp [World.cell?, hz]
  have f0 : w1.frozen? ⟨w.heap.size, 0, none⟩ = false := by simp [World.frozen?, hz]
  have f1 : w1.frozen? ⟨w.heap.size, 1, none⟩ = false := by simp [World.frozen?, hz]
  have f2 : w1.frozen? ⟨w.heap.size, 2, none⟩ = false := by simp [World.frozen?, hz]
  have f3 : w1.frozen? ⟨w.heap.size, 3, none⟩ = false := by simp [World.frozen?, hz]
  have hs1 : w.heap.size < w1.heap.size := (Array.getElem?_eq_some_iff.1 hz).1
  have hne : ¬ w.heap.size = G := by omega
  have HZ := Lib.hid hz
  clear hC1 hR1 hBut hz hg1
  go_wp2_with fail
  refine (take_no w0 _ G r 2 HR1.out h8 (by omega)).mono ?_
  rintro e w2 ⟨rfl, rfl⟩
  go_wp2_with fail
  exact ⟨rfl, (by (repeat (first | (with_reducible apply Grow.alloc) | (with_reducible apply Grow.drew) | (with_reducible apply Grow.drewN) | (with_reducible refine Grow.set ?_ (by simp <;> omega) _))); exact HG1.out), rfl⟩
set_option maxHeartbeats 1000000 in
set_option maxRecDepth 100000 in
theorem value_1 (w0 w : World) (G : Nat) (r : List Int) (hR : Rd w0 w G (1 :: r)) (hB : Below w0.heap.size w0 w) (hG : w0.heap.size ≤ G) (h8 : 8 ≤ r.length) (u : Int) (hu : getF (r.take 8) = some u) : Calls Try.prog 22 #[.pointer (some ⟨G, 0, none⟩)] w (ValPost w0 w G (.val 1 (wrap64 u) ⟨#[]⟩ false (r.drop 8))) := by
  have HU := Lib.hid hu
  clear hu
  have hGw := hR.lt
  have HR := Lib.hid hR
  have HB := Lib.hid hB
  clear hR hB
  go_enter Try.func22, Try.ntmps22
  go_wp2_with fail
  refine (take_yes w0 _ G (1 :: r) 1 (HR.out.alloc _) (by simp) (by omega)).mono ?_
  rintro e w1 ⟨A1, c1, rfl, hc1, hC1, hR1, hBut⟩
  obtain ⟨ad, rfl, hd, hz, hg1⟩ := first hGw HB.out hG hC1 hBut
  simp only [List.drop_succ_cons, List.drop_zero] at hR1
  have HR1 := Lib.hid hR1
  have HG1 := Lib.hid hg1
  have q0 : w1.cell? ⟨w.heap.size, 0, none⟩ = some (.int .i64 0) := by simp [World.cell?, hz]
  have q1 : w1.cell? ⟨w.heap.size, 1, none⟩ = some (.int .i64 0) := by simp [World.cell?, hz]
  have q2 : w1.cell? ⟨w.heap.size, 2, none⟩ = some (.string ⟨#[]⟩) := by simp [World.cell?, hz]
  have q3 : w1.cell? ⟨w.heap.size, 3, none⟩ = some (.bool false) := by simp [World.cell?, hz]
  have f0 : w1.frozen? ⟨w.heap.size, 0, none⟩ = false := by simp [World.frozen?, hz]
  have f1 : w1.frozen? ⟨w.heap.size, 1, none⟩ = false := by simp [World.frozen?, hz]
  have f2 : w1.frozen? ⟨w.heap.size, 2, none⟩ = false := by simp [World.frozen?, hz]
  have f3 : w1.frozen? ⟨w.heap.size, 3, none⟩ = false := by simp [World.frozen?, hz]
  have hs1 : w.heap.size < w1.heap.size := (Array.getElem?_eq_some_iff.1 hz).1
  have hne : ¬ w.heap.size = G := by omega
  have HZ := Lib.hid hz
  clear hC1 hR1 hBut hz hg1
  go_wp2_with fail
  refine (take_yes w0 _ G (r) 8 HR1.out (by first | assumption | omega) (by omega)).mono ?_
  rintro e w2 ⟨A2, c2, rfl, hc2, hC2, hR2, hBut⟩
  have HR2 := Lib.hid hR2
  have HG2 := Lib.hid (HG1.out.but hBut)
  have hz : w2.heap[w.heap.size]? = some zb := (hBut.2.2.2.2 _ hne).trans HZ.out
  have HC2 := Lib.hid hC2
  clear q0 q1 q2 q3 f0 f1 f2 f3 hBut hR2 hC2
  have q0 : w2.cell? ⟨w.heap.size, 0, none⟩ = some (.int .i64 0) := by simp [World.cell?, hz]
  have q1 : w2.cell? ⟨w.heap.size, 1, none⟩ = some (.int .i64 0) := by simp [World.cell?, hz]
  have q2 : w2.cell? ⟨w.heap.size, 2, none⟩ = some (.string ⟨#[]⟩) := by simp [World.cell?, hz]
  have q3 : w2.cell? ⟨w.heap.size, 3, none⟩ = some (.bool false) := by simp [World.cell?, hz]
  have f0 : w2.frozen? ⟨w.heap.size, 0, none⟩ = false := by simp [World.frozen?, hz]
  have f1 : w2.frozen? ⟨w.heap.size, 1, none⟩ = false := by simp [World.frozen?, hz]
  have f2 : w2.frozen? ⟨w.heap.size, 2, none⟩ = false := by simp [World.frozen?, hz]
  have f3 : w2.frozen? ⟨w.heap.size, 3, none⟩ = false := by simp [World.frozen?, hz]
  have hs : w.heap.size < w2.heap.size := (Array.getElem?_eq_some_iff.1 hz).1
  clear HZ
  have HZ := Lib.hid hz
  clear hz
  go_wp2_with fail
  refine (get_at A2 c2 8 _ u w0 w2 (by rw [List.length_take]; omega) hc2 HC2.out (HG2.out.blw HB.out hG) HU.out).mono ?_
  rintro e w' ⟨rfl, ⟨m, rfl⟩⟩
  go_wp2_with fail
  refine (rn_num _ _).mono ?_
  rintro e w3 ⟨rfl, hb⟩
  have hz : w3.heap[w.heap.size]? = some zb := (hb.block _ (by first | omega | (simp; omega))).trans HZ.out
  have HR3 := Lib.hid ((HR2.out.drewN m).below hb)
  have HG3 := Lib.hid ((HG2.out.drewN m).below hb)
  clear q0 q1 q2 q3 f0 f1 f2 f3 hb
  have q0 : w3.cell? ⟨w.heap.size, 0, none⟩ = some (.int .i64 0) := by simp [World.cell?, hz]
  have q1 : w3.cell? ⟨w.heap.size, 1, none⟩ = some (.int .i64 0) := by simp [World.cell?, hz]
  have q2 : w3.cell? ⟨w.heap.size, 2, none⟩ = some (.string ⟨#[]⟩) := by simp [World.cell?, hz]
  have q3 : w3.cell? ⟨w.heap.size, 3, none⟩ = some (.bool false) := by simp [World.cell?, hz]
  have f0 : w3.frozen? ⟨w.heap.size, 0, none⟩ = false := by simp [World.frozen?, hz]
  have f1 : w3.frozen? ⟨w.heap.size, 1, none⟩ = false := by simp [World.frozen?, hz]
  have f2 : w3.frozen? ⟨w.heap.size, 2, none⟩ = false := by simp [World.frozen?, hz]
  have f3 : w3.frozen? ⟨w.heap.size, 3, none⟩ = false := by simp [World.frozen?, hz]
  have hs : w.heap.size < w3.heap.size := (Array.getElem?_eq_some_iff.1 hz).1
  clear hz
  go_wp2_with fail
  exact bodyPost_ret (v := .agg #[.int .i64 1, .int .i64 (wrap64 u), .string ⟨#[]⟩, .bool false]) (by simp [results, Try.results22, go_sem, q0, q1, q2, q3]) rfl ⟨(by (repeat (first | (with_reducible apply Grow.alloc) | (with_reducible apply Grow.drew) | (with_reducible apply Grow.drewN) | (with_reducible refine Grow.set ?_ (by simp <;> omega) _))); exact HG3.out), rfl, (by (repeat (first | (with_reducible apply Rd.alloc) | (with_reducible apply Rd.drew) | (with_reducible apply Rd.drewN) | (with_reducible refine Rd.set ?_ (by simp <;> omega) _))); exact HR3.out)⟩
end Rw
end Go.Proofs.Ythcoiomnlcagcaa

namespace Go.Proofs.Ythcoiomnlcagcaa
open Go.RowKit Go.Proofs.Ythcoiomnlcagcaa.PRG Go.Proofs.YthcoiomnlcagcaaW.PrintWords Go.Proofs.YthcoiomnlcagcaaW.PrintLast
set_option linter.unusedVariables false
set_option linter.unusedSimpArgs false
namespace Rw
set_option maxHeartbeats 1000000 in
set_option maxRecDepth 100000 in
theorem value_2b (w0 w : World) (G : Nat) (r : List Int) (hR : Rd w0 w G (2 :: r)) (hB : Below w0.heap.size w0 w) (hG : w0.heap.size ≤ G) (h8 : 2 ≤ r.length) (u : Nat) (hu : getF (r.take 2) = some (u : Int)) (hx : u ≤ 9223372036854775807) (h4 : 400 < u) : Calls Try.prog 22 #[.pointer (some ⟨G, 0, none⟩)] w (ValPost w0 w G (.bad)) := by
  have HU := Lib.hid hu
  clear hu
  have hGw := hR.lt
  have HR := Lib.hid hR
  have HB := Lib.hid hB
  clear hR hB
  go_enter Try.func22, Try.ntmps22
  go_wp2_with fail
  refine (take_yes w0 _ G (2 :: r) 1 (HR.out.alloc _) (by simp) (by omega)).mono ?_
  rintro e w1 ⟨A1, c1, rfl, hc1, hC1, hR1, hBut⟩
  obtain ⟨ad, rfl, hd, hz, hg1⟩ := first hGw HB.out hG hC1 hBut
  simp only [List.drop_succ_cons, List.drop_zero] at hR1
  have HR1 := Lib.hid hR1
  have HG1 := Lib.hid hg1
  have q0 : w1.cell? ⟨w.heap.size, 0, none⟩ = some (.int .i64 0) := by simp [World.cell?, hz]
  have q1 : w1.cell? ⟨w.heap.size, 1, none⟩ = some (.int .i64 0) := by simp [World.cell?, hz]
  have q2 : w1.cell? ⟨w.heap.size, 2, none⟩ = some (.string ⟨#[]⟩) := by simp [World.cell?, hz]
  have q3 : w1.cell? ⟨w.heap.size, 3, none⟩ = some (.bool false) := by simp [World.cell?, hz]
  have f0 : w1.frozen? ⟨w.heap.size, 0, none⟩ = false := by simp [World.frozen?, hz]
  have f1 : w1.frozen? ⟨w.heap.size, 1, none⟩ = false := by simp [World.frozen?, hz]
  have f2 : w1.frozen? ⟨w.heap.size, 2, none⟩ = false := by simp [World.frozen?, hz]
  have f3 : w1.frozen? ⟨w.heap.size, 3, none⟩ = false := by simp [World.frozen?, hz]
  have hs1 : w.heap.size < w1.heap.size := (Array.getElem?_eq_some_iff.1 hz).1
  have hne : ¬ w.heap.size = G := by omega
  have HZ := Lib.hid hz
  clear hC1 hR1 hBut hz hg1
  go_wp2_with fail
  refine (take_yes w0 _ G (r) 2 HR1.out (by first | assumption | omega) (by omega)).mono ?_
  rintro e w2 ⟨A2, c2, rfl, hc2, hC2, hR2, hBut⟩
  have HR2 := Lib.hid hR2
  have HG2 := Lib.hid (HG1.out.but hBut)
  have hz : w2.heap[w.heap.size]? = some zb := (hBut.2.2.2.2 _ hne).trans HZ.out
  have HC2 := Lib.hid hC2
  clear q0 q1 q2 q3 f0 f1 f2 f3 hBut hR2 hC2
  have q0 : w2.cell? ⟨w.heap.size, 0, none⟩ = some (.int .i64 0) := by simp [World.cell?, hz]
  have q1 : w2.cell? ⟨w.heap.size, 1, none⟩ = some (.int .i64 0) := by simp [World.cell?, hz]
  have q2 : w2.cell? ⟨w.heap.size, 2, none⟩ = some (.string ⟨#[]⟩) := by simp [World.cell?, hz]
  have q3 : w2.cell? ⟨w.heap.size, 3, none⟩ = some (.bool false) := by simp [World.cell?, hz]
  have f0 : w2.frozen? ⟨w.heap.size, 0, none⟩ = false := by simp [World.frozen?, hz]
  have f1 : w2.frozen? ⟨w.heap.size, 1, none⟩ = false := by simp [World.frozen?, hz]
  have f2 : w2.frozen? ⟨w.heap.size, 2, none⟩ = false := by simp [World.frozen?, hz]
  have f3 : w2.frozen? ⟨w.heap.size, 3, none⟩ = false := by simp [World.frozen?, hz]
  have hs : w.heap.size < w2.heap.size := (Array.getElem?_eq_some_iff.1 hz).1
  clear HZ
  have HZ := Lib.hid hz
  clear hz
  go_wp2_with fail
  refine (get_at A2 c2 2 _ u w0 w2 (by rw [List.length_take]; omega) hc2 HC2.out (HG2.out.blw HB.out hG) HU.out).mono ?_
  rintro e w' ⟨rfl, ⟨m, rfl⟩⟩
  go_wp2_with fail
  have HG1 := Lib.hid (HG2.out.drewN m)
  exact ⟨rfl, (by (repeat (first | (with_reducible apply Grow.alloc) | (with_reducible apply Grow.drew) | (with_reducible apply Grow.drewN) | (with_reducible refine Grow.set ?_ (by simp <;> omega) _))); exact HG1.out), rfl⟩
set_option maxHeartbeats 1000000 in
set_option maxRecDepth 100000 in
theorem value_2s (w0 w : World) (G : Nat) (r : List Int) (hR : Rd w0 w G (2 :: r)) (hB : Below w0.heap.size w0 w) (hG : w0.heap.size ≤ G) (h8 : 2 ≤ r.length) (u : Nat) (hu : getF (r.take 2) = some (u : Int)) (h4 : u ≤ 400) (hs : (r.drop 2).length < u) : Calls Try.prog 22 #[.pointer (some ⟨G, 0, none⟩)] w (ValPost w0 w G (.bad)) := by
  have HU := Lib.hid hu
  clear hu
  have HS := Lib.hid hs
  clear hs
  have hGw := hR.lt
  have HR := Lib.hid hR
  have HB := Lib.hid hB
  clear hR hB
  go_enter Try.func22, Try.ntmps22
  go_wp2_with fail
  refine (take_yes w0 _ G (2 :: r) 1 (HR.out.alloc _) (by simp) (by omega)).mono ?_
  rintro e w1 ⟨A1, c1, rfl, hc1, hC1, hR1, hBut⟩
  obtain ⟨ad, rfl, hd, hz, hg1⟩ := first hGw HB.out hG hC1 hBut
  simp only [List.drop_succ_cons, List.drop_zero] at hR1
  have HR1 := Lib.hid hR1
  have HG1 := Lib.hid hg1
  have q0 : w1.cell? ⟨w.heap.size, 0, none⟩ = some (.int .i64 0) := by simp [World.cell?, hz]
  have q1 : w1.cell? ⟨w.heap.size, 1, none⟩ = some (.int .i64 0) := by simp [World.cell?, hz]
  have q2 : w1.cell? ⟨w.heap.size, 2, none⟩ = some (.string ⟨#[]⟩) := by simp [World.cell?, hz]
  have q3 : w1.cell? ⟨w.heap.size, 3, none⟩ = some (.bool false) := by simp [World.cell?, hz]
  have f0 : w1.frozen? ⟨w.heap.size, 0, none⟩ = false := by simp [World.frozen?, hz]
  have f1 : w1.frozen? ⟨w.heap.size, 1, none⟩ = false := by simp [World.frozen?, hz]
  have f2 : w1.frozen? ⟨w.heap.size, 2, none⟩ = false := by simp [World.frozen?, hz]
  have f3 : w1.frozen? ⟨w.heap.size, 3, none⟩ = false := by simp [World.frozen?, hz]
  have hs1 : w.heap.size < w1.heap.size := (Array.getElem?_eq_some_iff.1 hz).1
  have hne : ¬ w.heap.size = G := by omega
  have HZ := Lib.hid hz
  clear hC1 hR1 hBut hz hg1
  go_wp2_with fail
  refine (take_yes w0 _ G (r) 2 HR1.out (by first | assumption | omega) (by omega)).mono ?_
  rintro e w2 ⟨A2, c2, rfl, hc2, hC2, hR2, hBut⟩
  have HR2 := Lib.hid hR2
  have HG2 := Lib.hid (HG1.out.but hBut)
  have hz : w2.heap[w.heap.size]? = some zb := (hBut.2.2.2.2 _ hne).trans HZ.out
  have HC2 := Lib.hid hC2
  clear q0 q1 q2 q3 f0 f1 f2 f3 hBut hR2 hC2
  have q0 : w2.cell? ⟨w.heap.size, 0, none⟩ = some (.int .i64 0) := by simp [World.cell?, hz]
  have q1 : w2.cell? ⟨w.heap.size, 1, none⟩ = some (.int .i64 0) := by simp [World.cell?, hz]
  have q2 : w2.cell? ⟨w.heap.size, 2, none⟩ = some (.string ⟨#[]⟩) := by simp [World.cell?, hz]
  have q3 : w2.cell? ⟨w.heap.size, 3, none⟩ = some (.bool false) := by simp [World.cell?, hz]
  have f0 : w2.frozen? ⟨w.heap.size, 0, none⟩ = false := by simp [World.frozen?, hz]
  have f1 : w2.frozen? ⟨w.heap.size, 1, none⟩ = false := by simp [World.frozen?, hz]
  have f2 : w2.frozen? ⟨w.heap.size, 2, none⟩ = false := by simp [World.frozen?, hz]
  have f3 : w2.frozen? ⟨w.heap.size, 3, none⟩ = false := by simp [World.frozen?, hz]
  have hs : w.heap.size < w2.heap.size := (Array.getElem?_eq_some_iff.1 hz).1
  clear HZ
  have HZ := Lib.hid hz
  clear hz
  go_wp2_with fail
  refine (get_at A2 c2 2 _ u w0 w2 (by rw [List.length_take]; omega) hc2 HC2.out (HG2.out.blw HB.out hG) HU.out).mono ?_
  rintro e w' ⟨rfl, ⟨m, rfl⟩⟩
  go_wp2_with fail
  refine (take_no w0 _ G (r.drop 2) u (HR2.out.drewN m) HS.out (by omega)).mono ?_
  rintro e w3 ⟨rfl, rfl⟩
  have HG1 := Lib.hid (HG2.out.drewN m)
  go_wp2_with fail
  exact ⟨rfl, (by (repeat (first | (with_reducible apply Grow.alloc) | (with_reducible apply Grow.drew) | (with_reducible apply Grow.drewN) | (with_reducible refine Grow.set ?_ (by simp <;> omega) _))); exact HG1.out), rfl⟩
set_option maxHeartbeats 1000000 in
set_option maxRecDepth 100000 in
theorem value_2 (w0 w : World) (G : Nat) (r : List Int) (hR : Rd w0 w G (2 :: r)) (hB : Below w0.heap.size w0 w) (hG : w0.heap.size ≤ G) (h8 : 2 ≤ r.length) (u : Nat) (hu : getF (r.take 2) = some (u : Int)) (h4 : u ≤ 400) (hs : u ≤ (r.drop 2).length) : Calls Try.prog 22 #[.pointer (some ⟨G, 0, none⟩)] w (ValPost w0 w G (.val 2 0 (strOfNums ((r.drop 2).take u)) false ((r.drop 2).drop u))) := by
  have HU := Lib.hid hu
  clear hu
  have HS := Lib.hid hs
  clear hs
  have hGw := hR.lt
  have HR := Lib.hid hR
  have HB := Lib.hid hB
  clear hR hB
  go_enter Try.func22, Try.ntmps22
  go_wp2_with fail
  refine (take_yes w0 _ G (2 :: r) 1 (HR.out.alloc _) (by simp) (by omega)).mono ?_
  rintro e w1 ⟨A1, c1, rfl, hc1, hC1, hR1, hBut⟩
  obtain ⟨ad, rfl, hd, hz, hg1⟩ := first hGw HB.out hG hC1 hBut
  simp only [List.drop_succ_cons, List.drop_zero] at hR1
  have HR1 := Lib.hid hR1
  have HG1 := Lib.hid hg1
  have q0 : w1.cell? ⟨w.heap.size, 0, none⟩ = some (.int .i64 0) := by simp [World.cell?, hz]
  have q1 : w1.cell? ⟨w.heap.size, 1, none⟩ = some (.int .i64 0) := by simp [World.cell?, hz]
  have q2 : w1.cell? ⟨w.heap.size, 2, none⟩ = some (.string ⟨#[]⟩) := by simp [World.cell?, hz]
  have q3 : w1.cell? ⟨w.heap.size, 3, none⟩ = some (.bool false) := by simp [World.cell?, hz]
  have f0 : w1.frozen? ⟨w.heap.size, 0, none⟩ = false := by simp [World.frozen?, hz]
  have f1 : w1.frozen? ⟨w.heap.size, 1, none⟩ = false := by simp [World.frozen?, hz]
  have f2 : w1.frozen? ⟨w.heap.size, 2, none⟩ = false := by simp [World.frozen?, hz]
  have f3 : w1.frozen? ⟨w.heap.size, 3, none⟩ = false := by simp [World.frozen?, hz]
  have hs1 : w.heap.size < w1.heap.size := (Array.getElem?_eq_some_iff.1 hz).1
  have hne : ¬ w.heap.size = G := by omega
  have HZ := Lib.hid hz
  clear hC1 hR1 hBut hz hg1
  go_wp2_with fail
  refine (take_yes w0 _ G (r) 2 HR1.out (by first | assumption | omega) (by omega)).mono ?_
  rintro e w2 ⟨A2, c2, rfl, hc2, hC2, hR2, hBut⟩
  have HR2 := Lib.hid hR2
  have HG2 := Lib.hid (HG1.out.but hBut)
  have hz : w2.heap[w.heap.size]? = some zb := (hBut.2.2.2.2 _ hne).trans HZ.out
  have HC2 := Lib.hid hC2
  clear q0 q1 q2 q3 f0 f1 f2 f3 hBut hR2 hC2
  have q0 : w2.cell? ⟨w.heap.size, 0, none⟩ = some (.int .i64 0) := by simp [World.cell?, hz]
  have q1 : w2.cell? ⟨w.heap.size, 1, none⟩ = some (.int .i64 0) := by simp [World.cell?, hz]
  have q2 : w2.cell? ⟨w.heap.size, 2, none⟩ = some (.string ⟨#[]⟩) := by simp [World.cell?, hz]
  have q3 : w2.cell? ⟨w.heap.size, 3, none⟩ = some (.bool false) := by simp [World.cell?, hz]
  have f0 : w2.frozen? ⟨w.heap.size, 0, none⟩ = false := by simp [World.frozen?, hz]
  have f1 : w2.frozen? ⟨w.heap.size, 1, none⟩ = false := by simp [World.frozen?, hz]
  have f2 : w2.frozen? ⟨w.heap.size, 2, none⟩ = false := by simp [World.frozen?, hz]
  have f3 : w2.frozen? ⟨w.heap.size, 3, none⟩ = false := by simp [World.frozen?, hz]
  have hs : w.heap.size < w2.heap.size := (Array.getElem?_eq_some_iff.1 hz).1
  clear HZ
  have HZ := Lib.hid hz
  clear hz
  go_wp2_with fail
  refine (get_at A2 c2 2 _ u w0 w2 (by rw [List.length_take]; omega) hc2 HC2.out (HG2.out.blw HB.out hG) HU.out).mono ?_
  rintro e w' ⟨rfl, ⟨m, rfl⟩⟩
  go_wp2_with fail
  refine (take_yes w0 _ G (r.drop 2) u (HR2.out.drewN m) HS.out (by omega)).mono ?_
  rintro e w3 ⟨A3, c3, rfl, hc3, hC3, hR3, hBut⟩
  have hg3 := (HG2.out.drewN m).but hBut
  have hz : w3.heap[w.heap.size]? = some zb := (hBut.2.2.2.2 _ hne).trans HZ.out
  have hlt : ((r.drop 2).take u).length = u := by rw [List.length_take]; have := HS.out; omega
  have hcv := Kd.C_string (P := Try.prog) (A := A3) (c := c3) Try.underlying25 Try.underlying5 Try.underlying9 (Kd.C_below hC3 (hg3.blw HB.out hG))
  rw [hlt] at hcv
  have HR3 := Lib.hid hR3
  have HG3 := Lib.hid hg3
  clear q0 q1 q2 q3 f0 f1 f2 f3 hBut hR3 hC3 hg3 hlt
  have q0 : w3.cell? ⟨w.heap.size, 0, none⟩ = some (.int .i64 0) := by simp [World.cell?, hz]
  have q1 : w3.cell? ⟨w.heap.size, 1, none⟩ = some (.int .i64 0) := by simp [World.cell?, hz]
  have q2 : w3.cell? ⟨w.heap.size, 2, none⟩ = some (.string ⟨#[]⟩) := by simp [World.cell?, hz]
  have q3 : w3.cell? ⟨w.heap.size, 3, none⟩ = some (.bool false) := by simp [World.cell?, hz]
  have f0 : w3.frozen? ⟨w.heap.size, 0, none⟩ = false := by simp [World.frozen?, hz]
  have f1 : w3.frozen? ⟨w.heap.size, 1, none⟩ = false := by simp [World.frozen?, hz]
  have f2 : w3.frozen? ⟨w.heap.size, 2, none⟩ = false := by simp [World.frozen?, hz]
  have f3 : w3.frozen? ⟨w.heap.size, 3, none⟩ = false := by simp [World.frozen?, hz]
  have hs : w.heap.size < w3.heap.size := (Array.getElem?_eq_some_iff.1 hz).1
  clear HZ
  have HZ := Lib.hid hz
  clear hz
  go_wp2_with fail
  refine (rn_text _ _).mono ?_
  rintro e w4 ⟨rfl, hb⟩
  have hz : w4.heap[w.heap.size]? = some zb := (hb.block _ (by first | omega | (simp; omega))).trans HZ.out
  have HR4 := Lib.hid (HR3.out.below hb)
  have HG4 := Lib.hid (HG3.out.below hb)
  clear q0 q1 q2 q3 f0 f1 f2 f3 hb hcv
  have q0 : w4.cell? ⟨w.heap.size, 0, none⟩ = some (.int .i64 0) := by simp [World.cell?, hz]
  have q1 : w4.cell? ⟨w.heap.size, 1, none⟩ = some (.int .i64 0) := by simp [World.cell?, hz]
  have q2 : w4.cell? ⟨w.heap.size, 2, none⟩ = some (.string ⟨#[]⟩) := by simp [World.cell?, hz]
  have q3 : w4.cell? ⟨w.heap.size, 3, none⟩ = some (.bool false) := by simp [World.cell?, hz]
  have f0 : w4.frozen? ⟨w.heap.size, 0, none⟩ = false := by simp [World.frozen?, hz]
  have f1 : w4.frozen? ⟨w.heap.size, 1, none⟩ = false := by simp [World.frozen?, hz]
  have f2 : w4.frozen? ⟨w.heap.size, 2, none⟩ = false := by simp [World.frozen?, hz]
  have f3 : w4.frozen? ⟨w.heap.size, 3, none⟩ = false := by simp [World.frozen?, hz]
  have hs : w.heap.size < w4.heap.size := (Array.getElem?_eq_some_iff.1 hz).1
  clear hz
  go_wp2_with fail
  exact bodyPost_ret (v := .agg #[.int .i64 2, .int .i64 0, .string (strOfNums ((r.drop 2).take u)), .bool false]) (by simp [results, Try.results22, go_sem, q0, q1, q2, q3]) rfl ⟨(by (repeat (first | (with_reducible apply Grow.alloc) | (with_reducible apply Grow.drew) | (with_reducible apply Grow.drewN) | (with_reducible refine Grow.set ?_ (by simp <;> omega) _))); exact HG4.out), rfl, (by (repeat (first | (with_reducible apply Rd.alloc) | (with_reducible apply Rd.drew) | (with_reducible apply Rd.drewN) | (with_reducible refine Rd.set ?_ (by simp <;> omega) _))); exact HR4.out)⟩
/-- what takes a value, whatever stands there -/
theorem value_any (w0 w : World) (G : Nat) (l : List Int) (o : Out) (hR : Rd w0 w G l) (hB : Below w0.heap.size w0 w) (hG : w0.heap.size ≤ G) (hv : valD l = some o) : Calls Try.prog 22 #[.pointer (some ⟨G, 0, none⟩)] w (ValPost w0 w G o) := by
  cases l with
  | nil => obtain rfl := Option.some.inj hv; exact value_nil w0 w G hR hB hG
  | cons c r =>
    unfold valD at hv
    dsimp only at hv
    by_cases e0 : c = 0
    · subst e0
      rw [if_pos rfl] at hv
      obtain rfl := Option.some.inj hv
      exact value_0 w0 w G r hR hB hG
    rw [if_neg e0] at hv
    by_cases e1 : c = 1
    · subst e1
      rw [if_pos rfl] at hv
      by_cases h8 : r.length < 8
      · rw [if_pos h8] at hv
        obtain rfl := Option.some.inj hv
        exact value_1n w0 w G r hR hB hG h8
      · rw [if_neg h8] at hv
        cases hu : getF (r.take 8) with
        | none => rw [hu] at hv; cases hv
        | some u =>
          rw [hu] at hv
          obtain rfl := Option.some.inj hv
          exact value_1 w0 w G r hR hB hG (by omega) u hu
    rw [if_neg e1] at hv
    by_cases e2 : c = 2
    · subst e2
      rw [if_pos rfl] at hv
      by_cases h8 : r.length < 2
      · rw [if_pos h8] at hv
        obtain rfl := Option.some.inj hv
        exact value_2n w0 w G r hR hB hG h8
      · rw [if_neg h8] at hv
        cases hu : getF (r.take 2) with
        | none => rw [hu] at hv; cases hv
        | some u =>
          rw [hu] at hv
          simp only [Option.bind_some] at hv
          by_cases hx : u < 0 ∨ 9223372036854775807 < u
          · rw [if_pos hx] at hv; cases hv
          rw [if_neg hx] at hv
          obtain ⟨n, rfl⟩ : ∃ n : Nat, u = n := ⟨u.toNat, by omega⟩
          by_cases h4 : (400 : Int) < (n : Int)
          · rw [if_pos h4] at hv
            obtain rfl := Option.some.inj hv
            exact value_2b w0 w G r hR hB hG (by omega) n hu (by omega) (by omega)
          rw [if_neg h4] at hv
          have hl : (r.drop 2).length = r.length - 2 := List.length_drop
          by_cases h5 : (r.length : Int) - 2 < (n : Int)
          · rw [if_pos h5] at hv
            obtain rfl := Option.some.inj hv
            exact value_2s w0 w G r hR hB hG (by omega) n hu (by omega) (by omega)
          · rw [if_neg h5] at hv
            obtain rfl := Option.some.inj hv
            exact value_2 w0 w G r hR hB hG (by omega) n hu (by omega) (by omega)
    rw [if_neg e2] at hv
    by_cases e3 : c = 3
    · subst e3
      rw [if_pos rfl] at hv
      obtain rfl := Option.some.inj hv
      exact value_3 w0 w G r hR hB hG
    rw [if_neg e3] at hv
    by_cases e4 : c = 4
    · subst e4
      rw [if_pos rfl] at hv
      obtain rfl := Option.some.inj hv
      exact value_4 w0 w G r hR hB hG
    rw [if_neg e4] at hv
    obtain rfl := Option.some.inj hv
    exact value_other w0 w G c r hR hB hG (beq_eq_false_iff_ne.2 e0) (beq_eq_false_iff_ne.2 e1) (beq_eq_false_iff_ne.2 e2) (beq_eq_false_iff_ne.2 e3) (beq_eq_false_iff_ne.2 e4)
end Rw
end Go.Proofs.Ythcoiomnlcagcaa

namespace Go.Proofs.Ythcoiomnlcagcaa
open Go.RowKit Go.Proofs.Ythcoiomnlcagcaa.PRG Go.Proofs.YthcoiomnlcagcaaW.PrintWords Go.Proofs.YthcoiomnlcagcaaW.PrintLast
set_option linter.unusedVariables false
set_option linter.unusedSimpArgs false
namespace Rw

theorem catch_idle (p q : Addr) (w : World) :
    CallsD Try.prog 20 #[.pointer (some p), .pointer (some q)] .returning w fun e u' w' => e = .returned (.tuple #[]) ∧ u' = .returning ∧ w' = w := by
  refine callsD_of_wpS Try.func20 rfl fun c₀ cs hu => ?_
  apply wpS_seq
  apply wpS_region
  simp [wpOpsS, go_sem, recoverD, hu, Try.ntmps20, Exit.thenS]
  refine wpS_of_wp ?_
  go_wp2
  cases c₀
  simp_all [bodyPostS, results, Try.results20]
set_option maxHeartbeats 1000000 in
theorem catch_pan (p q : Nat) (v1 v2 : Value) (w : World) (hp : w.cell? ⟨p, 0, none⟩ = some v1) (fp : w.frozen? ⟨p, 0, none⟩ = false) (hq : w.cell? ⟨q, 0, none⟩ = some v2) (fq : w.frozen? ⟨q, 0, none⟩ = false) (lp : p < w.heap.size) (lq : q < w.heap.size) (ne : ¬ p = q) (ne' : ¬ q = p) :
    CallsD Try.prog 20 #[.pointer (some ⟨p, 0, none⟩), .pointer (some ⟨q, 0, none⟩)] (.panicking brk) w fun e u' w' =>
      e = .returned (.tuple #[]) ∧ u' = .panicking [{ v := .iface 50 (.agg #[]), recovered := true }] ∧ w' = ((w.setCell ⟨p, 0, none⟩ (.slice none 0 0)).setCell ⟨q, 0, none⟩ (.int .i64 41)).alloc (.cells #[] 50) := by
  have hta : ∀ (v : Value) (W : World), (Instr.typeAssert (.iface 50 v) 20 50 true).run Try.prog W = .ok (.tuple #[v, .bool true]) W := fun v W => by rfl
  refine callsD_of_wpS Try.func20 rfl fun c₀ cs hu => ?_
  apply wpS_seq
  apply wpS_region
  simp [wpOpsS, go_sem, recoverD, hu, Try.ntmps20, Exit.thenS]
  rw [show (#[Value.pointer (some ⟨p, 0, none⟩), Value.pointer (some ⟨q, 0, none⟩)] ++ ((Array.replicate 14 undef).setIfInBounds 3 (Value.iface 50 (.agg #[]))).setIfInBounds 0 (Value.iface 50 (.agg #[]))) = #[.pointer (some ⟨p, 0, none⟩), .pointer (some ⟨q, 0, none⟩), .iface 50 (.agg #[]), undef, undef, .iface 50 (.agg #[]), undef, undef, undef, undef, undef, undef, undef, undef, undef, undef] from rfl]
  refine wpS_of_wp ?_
  go_wp2
  cases c₀
  simp_all [bodyPostS, results, Try.results20]
end Rw
end Go.Proofs.Ythcoiomnlcagcaa

namespace Go.Proofs.Ythcoiomnlcagcaa
open Go.RowKit Go.Proofs.Ythcoiomnlcagcaa.PRG Go.Proofs.YthcoiomnlcagcaaW.PrintWords Go.Proofs.YthcoiomnlcagcaaW.PrintLast
set_option linter.unusedVariables false
set_option linter.unusedSimpArgs false
namespace Rw
section
variable {P : Program} {ops : Array Oper} {Q : Exit → Act → World → Prop}
/-- a call that panics, in a region that draws -/
theorem goesP_ {oi : Oper} {N : Option Tmp} {a : Act} {w : World} {K : Act → World → Prop} {f : FuncId} {fn : Func} {xs : Array Operand} {ts : Array TypeId} (hf : P.funcs[f]? = some fn) (hname : (fn.name == "runtime.NumGoroutine") = false) (hb : fn.body.isSome = true) (args : Array Value)
    (hw : Region.wanted oi (yielded ops a.tmps) = true) (hop : oi.op = .call { callee := .value (.func f), args := xs, argTypes := ts }) (hargs : xs.map a.eval = args)
    (h : Calls P f args w fun e w' => ∃ c, e = .panicked c ∧ Q (.panic c) a w') : if Region.wanted oi (yielded ops a.tmps) = true then Oper.wp P oi a w K Q else K (a.put N undef) w := by
  rw [if_pos hw]
  have he := enters_ hf hname hb args w
  have hrun : (execOp a.eval oi).run P w = .ok (.enter f args) w := by
    unfold execOp
    simp [hop, resolve, Deferred.ofValue, invoke, Act.eval, hargs, he]
  unfold Oper.wp
  rw [hrun, Oper.upon_enter]
  refine h.mono fun e w'' hh => ?_
  obtain ⟨c, rfl, hk⟩ := hh
  exact hk
end
abbrev V4 := Int × Int × ByteArray × Bool
def cells4 (x : V4) : List Value := [.int .i64 x.1, .int .i64 x.2.1, .string x.2.2.1, .bool x.2.2.2]
def rowC (xs : List V4) : List Value := xs.flatMap cells4
theorem rowC_snoc (xs : List V4) (x : V4) : rowC (xs ++ [x]) = rowC xs ++ cells4 x := by simp [rowC]
theorem rowC_len : ∀ xs : List V4, (rowC xs).length = xs.length * 4
  | [] => rfl
  | x :: xs => by have := rowC_len xs; simp [rowC, cells4] at this ⊢; omega
abbrev Rr := Option (List V4 × List Int)
/-- n values, one behind the other -/
def rowD : Nat → List Int → Option Rr
  | 0, l => some (some ([], l))
  | n + 1, l => (valD l).bind fun o => match o with
    | .bad => some none
    | .val k m s b rest => (rowD n rest).map fun r => r.map fun p => ((k, m, s, b) :: p.1, p.2)
def pre (xs : List V4) (r : Rr) : Rr := r.map fun p => (xs ++ p.1, p.2)
theorem pre_nil (r : Rr) : pre [] r = r := by cases r <;> rfl
theorem pre_cons (xs : List V4) (x : V4) (r : Rr) : pre xs (r.map fun p => (x :: p.1, p.2)) = pre (xs ++ [x]) r := by cases r <;> simp [pre]
/-- the row of some bytes, and a number: 41, it is none -/
def decD (l : List Int) : Option (List V4 × Int) := match l with
  | [] => some ([], 41)
  | c :: r => if c < 0 ∨ 255 < c then none else if 12 < c then some ([], 41) else (rowD c.toNat r).map fun x => match x with
    | none => ([], 41)
    | some (xs, rest) => if rest = [] then (xs, 0) else ([], 41)
theorem info40 : (Try.prog.info? 40).map (fun i => (i.zero, i.size, i.bytes)) = some (some (.agg #[.int .i64 0, .int .i64 0, .string ⟨#[]⟩, .bool false]), 4, 40) := by kernel_rfl
/-- what reading rows leaves -/
def DecPost (w : World) (xs : List V4) (m : Int) (e : Ending) (w' : World) : Prop :=
  ∃ v, e = .returned (.tuple #[v, .int .i64 m]) ∧ w'.ownsRow w.heap.size 40 4 v xs.length (rowC xs) ∧ Below w.heap.size w w'
end Rw
end Go.Proofs.Ythcoiomnlcagcaa

namespace Go.Proofs.Ythcoiomnlcagcaa
open Go.RowKit Go.Proofs.Ythcoiomnlcagcaa.PRG Go.Proofs.YthcoiomnlcagcaaW.PrintWords Go.Proofs.YthcoiomnlcagcaaW.PrintLast
set_option linter.unusedVariables false
set_option linter.unusedSimpArgs false
namespace Rw

theorem zb3 (w : World) (a b c : Obj) : (((w.alloc a).alloc b).alloc c).heap[w.heap.size + 2]? = some c := by
  have h : ((w.alloc a).alloc b).heap.size = w.heap.size + 2 := by simp
  rw [← h]; exact Array.getElem?_push_size
theorem start3 {w w1 : World} {a b c : Obj} (h : But (((w.alloc a).alloc b).alloc c) (w.heap.size + 2) w1) : w1.heap[w.heap.size]? = some a ∧ w1.heap[w.heap.size + 1]? = some b ∧ Below w.heap.size w w1 ∧ w1.heap.size = w.heap.size + 3 := by
  have bel : Below w.heap.size w (((w.alloc a).alloc b).alloc c) := (((Below.refl _ _).alloc (Nat.le_refl _) _).alloc (by simp) _).alloc (by simp <;> omega) _
  obtain ⟨h1, h2, h3, h4, h5⟩ := h
  have hz : (((w.alloc a).alloc b).alloc c).heap.size = w.heap.size + 3 := by simp
  have e1 : (w.alloc a).heap.size = w.heap.size + 1 := by simp
  have e2 : ((w.alloc a).alloc b).heap.size = w.heap.size + 2 := by simp
  refine ⟨?_, ?_, ⟨h1.trans bel.os, h2.trans bel.tape, h3.trans bel.output, by omega, fun i hi => (h5 i (by omega)).trans (bel.block i hi)⟩, by omega⟩
  · rw [h5 _ (by omega)]
    show (((w.alloc a).alloc b).heap.push c)[w.heap.size]? = _
    rw [Array.getElem?_push, if_neg (by omega)]
    show ((w.alloc a).heap.push b)[w.heap.size]? = _
    rw [Array.getElem?_push, if_neg (by omega)]
    exact Array.getElem?_push_size
  · rw [h5 _ (by omega)]
    show (((w.alloc a).alloc b).heap.push c)[w.heap.size + 1]? = _
    rw [Array.getElem?_push, if_neg (by omega), ← e1]
    exact Array.getElem?_push_size
set_option maxHeartbeats 1000000 in
set_option maxRecDepth 100000 in
theorem dec_nil (A0 : Option Addr) (c0 : Nat) (w : World) (hC : Kd.C (Kd.int .u8) w A0 0 []) : Calls Try.prog 11 #[.slice A0 0 c0] w (DecPost w [] 41) := by
  have hmf : ∀ (fn : Fn) (first cap : Array Value) (w : World), (Instr.makeFunc fn first cap).run Try.prog w = .ok (.func fn first cap) w := fun _ _ _ _ => rfl

  have HC := Lib.hid hC
  clear hC
  go_enter_defers Try.func11, Try.ntmps11
  go_wp2_with fail
  refine (take_no w _ (w.heap.size + 2) [] 1 ⟨A0, c0, ?_, Nat.zero_le _, trivial, by decide, HC.out⟩ (by simp) (by omega)).mono ?_
  · exact zb3 w _ _ _
  rintro e w1 ⟨rfl, rfl⟩
  go_wp2_with fail
  refine leaves_cons (f := 20) (args := #[.pointer (some ⟨w.heap.size, 0, none⟩), .pointer (some ⟨w.heap.size + 1, 0, none⟩)]) (by simp) (by simp [go_sem]) ?_
  refine (catch_pan w.heap.size (w.heap.size + 1) (.slice none 0 0) (.int .i64 0) _ (by simp [go_sem]) (by simp [go_sem]) (by simp [go_sem]) (by simp [go_sem]) (by simp <;> omega) (by simp <;> omega) (by omega) (by omega)).mono ?_
  rintro e u' w'' ⟨rfl, rfl, rfl⟩
  simp [Leaves, settle, results, Try.results11, go_sem]
  exact ⟨_, rfl, ⟨rfl, .inl ⟨rfl, rfl⟩⟩, by repeat (first | exact Below.refl _ _ | (refine Below.alloc ?_ (by simp <;> omega) _))⟩
/-- what stands when k values have been read -/
structure Lp (w : World) (n : Nat) (T : Rr) (k : Nat) (xs : List V4) (li : List Int) (v : Value) (wr : World) : Prop where
  kn : k ≤ n
  rd : Rd w wr (w.heap.size + 2) li
  row : wr.heap[w.heap.size]? = some (.cells #[v] 24 (0, 0))
  err : wr.heap[w.heap.size + 1]? = some (.cells #[.int .i64 0] 27 (0, 0))
  own : wr.ownsRow (w.heap.size + 3) 40 4 v k (rowC xs)
  len : xs.length = k
  sum : (rowD (n - k) li).map (pre xs) = some T
  bel : Below w.heap.size w wr
  big : w.heap.size + 3 ≤ wr.heap.size
def fin : Rr → List V4 × Int
  | none => ([], 41)
  | some (xs, rest) => if rest = [] then (xs, 0) else ([], 41)
def LpR (w : World) (n : Nat) (T : Rr) (i : Value) (wr : World) : Prop := ∃ (k : Nat) (xs : List V4) (li : List Int) (v : Value), i = .int .i64 k ∧ Lp w n T k xs li v wr
theorem Lp.cells {w wr : World} {n k : Nat} {T : Rr} {xs : List V4} {li : List Int} {v : Value} (h : Lp w n T k xs li v wr) : wr.cell? ⟨w.heap.size, 0, none⟩ = some v ∧ wr.frozen? ⟨w.heap.size, 0, none⟩ = false ∧ wr.cell? ⟨w.heap.size + 1, 0, none⟩ = some (.int .i64 0) ∧ wr.frozen? ⟨w.heap.size + 1, 0, none⟩ = false := by
  refine ⟨?_, ?_, ?_, ?_⟩
  · simp [World.cell?, h.row]
  · simp [World.frozen?, h.row]
  · simp [World.cell?, h.err]
  · simp [World.frozen?, h.err]
theorem Lp.end_ {w wr : World} {n k : Nat} {T : Rr} {xs : List V4} {li : List Int} {v : Value} (h : Lp w n T k xs li v wr) (hk : ¬ k < n) : T = some (xs, li) := by
  have e : n - k = 0 := by omega
  have := h.sum
  rw [e] at this
  simp [rowD, pre] at this
  exact this.symm
theorem Lp.bad {w wr : World} {n k : Nat} {T : Rr} {xs : List V4} {li : List Int} {v : Value} (h : Lp w n T k xs li v wr) (hk : k < n) (hv : valD li = some .bad) : T = none := by
  obtain ⟨m, e⟩ : ∃ m, n - k = m + 1 := ⟨n - k - 1, by omega⟩
  have := h.sum
  rw [e] at this
  simp [rowD, hv, pre] at this
  exact this.symm
theorem Lp.none_ {w wr : World} {n k : Nat} {T : Rr} {xs : List V4} {li : List Int} {v : Value} (h : Lp w n T k xs li v wr) (hk : k < n) (hv : valD li = none) : False := by
  obtain ⟨m, e⟩ : ∃ m, n - k = m + 1 := ⟨n - k - 1, by omega⟩
  have := h.sum
  rw [e] at this
  simp [rowD, hv] at this
theorem Lp.next {w wr : World} {n k : Nat} {T : Rr} {xs : List V4} {li rest : List Int} {v : Value} {a b : Int} {s : ByteArray} {d : Bool} (h : Lp w n T k xs li v wr) (hk : k < n) (hv : valD li = some (.val a b s d rest)) : (rowD (n - (k + 1)) rest).map (pre (xs ++ [(a, b, s, d)])) = some T := by
  obtain ⟨m, e⟩ : ∃ m, n - k = m + 1 := ⟨n - k - 1, by omega⟩
  have h1 := h.sum
  rw [e] at h1
  simp only [rowD, hv, Option.bind_some] at h1
  rw [show n - (k + 1) = m from by omega]
  rw [← h1, Option.map_map]
  congr 1
  funext r
  exact (pre_cons xs _ r).symm
set_option maxHeartbeats 2000000 in
set_option maxRecDepth 100000 in
theorem dec_cons (A0 : Option Addr) (c0 : Nat) (c : Int) (r : List Int) (w : World) (hC : Kd.C (Kd.int .u8) w A0 (r.length + 1) (c :: r)) (hc : r.length + 1 ≤ c0) (hl : r.length + 1 ≤ 140800000000000) (h0 : 0 ≤ c) (h1 : c ≤ 255) (h12 : 12 < c) : Calls Try.prog 11 #[.slice A0 (r.length + 1) c0] w (DecPost w [] 41) := by
  have hmf : ∀ (fn : Fn) (first cap : Array Value) (w : World), (Instr.makeFunc fn first cap).run Try.prog w = .ok (.func fn first cap) w := fun _ _ _ _ => rfl

  have HC := Lib.hid hC
  have HL := Lib.hid hl
  have Hc := Lib.hid hc
  clear hC hl hc
  go_enter_defers Try.func11, Try.ntmps11
  go_wp2_with fail
  refine (take_yes w _ (w.heap.size + 2) (c :: r) 1 ⟨A0, c0, zb3 w _ _ _, Hc.out, trivial, HL.out, HC.out⟩ (by simp) (by omega)).mono ?_
  rintro e w1 ⟨A1, c1, rfl, hc1, hC1, hR1, hBut⟩
  obtain ⟨hp, hq, hb1, hz1⟩ := start3 hBut
  obtain ⟨ad, rfl, hd⟩ := C_at (Kd.C_below hC1 hb1) 0 (by simp)
  have ea : ad.add 0 = ad := by simp [Addr.add]
  rw [ea] at hd
  simp only [List.take_succ_cons, List.take_zero, List.getD_cons_zero] at hd
  simp only [List.drop_succ_cons, List.drop_zero] at hR1
  have HR1 := Lib.hid hR1
  have HP := Lib.hid hp
  have HQ := Lib.hid hq
  have HB1 := Lib.hid hb1
  have HZ1 := Lib.hid hz1
  clear hC1 hBut ea hR1 hb1 hz1
  have cp : w1.cell? ⟨w.heap.size, 0, none⟩ = some (.slice none 0 0) := by simp [World.cell?, hp]
  have fp : w1.frozen? ⟨w.heap.size, 0, none⟩ = false := by simp [World.frozen?, hp]
  have cq : w1.cell? ⟨w.heap.size + 1, 0, none⟩ = some (.int .i64 0) := by simp [World.cell?, hq]
  have fq : w1.frozen? ⟨w.heap.size + 1, 0, none⟩ = false := by simp [World.frozen?, hq]
  clear hp hq
  go_wp2_with fail
  refine leaves_cons (f := 20) (args := #[.pointer (some ⟨w.heap.size, 0, none⟩), .pointer (some ⟨w.heap.size + 1, 0, none⟩)]) (by simp) (by simp [go_sem]) ?_
  refine (catch_pan w.heap.size (w.heap.size + 1) (.slice none 0 0) (.int .i64 0) _ cp fp cq fq (by rw [HZ1.out]; omega) (by rw [HZ1.out]; omega) (by omega) (by omega)).mono ?_
  rintro e u' w'' ⟨rfl, rfl, rfl⟩
  have hz2 : w.heap.size + 1 < w1.heap.size := by rw [HZ1.out]; omega
  have hz3 : w.heap.size < w1.heap.size := by rw [HZ1.out]; omega
  simp [Leaves, settle, results, Try.results11, go_sem, cp, cq, hz2, hz3]
  exact ⟨_, rfl, ⟨rfl, .inl ⟨rfl, rfl⟩⟩, (((HB1.out.setCell (Nat.le_refl _) _).setCell (by simp) _).alloc (by simp; omega) _)⟩
end Rw
end Go.Proofs.Ythcoiomnlcagcaa

namespace Go.Proofs.Ythcoiomnlcagcaa
open Go.RowKit Go.Proofs.Ythcoiomnlcagcaa.PRG Go.Proofs.YthcoiomnlcagcaaW.PrintWords Go.Proofs.YthcoiomnlcagcaaW.PrintLast
set_option linter.unusedVariables false
set_option linter.unusedSimpArgs false
namespace Rw

theorem leaves_tmps {P : Program} {fn : Func} {t1 t2 : Array Value} {R : Ending → World → Prop} (h : results fn t1 = results fn t2) : ∀ (ds : List Deferred) (u : FrameMode) (w : World), Leaves P fn t1 R ds u w → Leaves P fn t2 R ds u w
  | [], .returning, _, ⟨v, h1, h2⟩ => ⟨v, h ▸ h1, h2⟩
  | [], .panicking _, _, h1 => h1
  | [], .run, _, h1 => h1
  | d :: ds, u, w, ⟨h1, fv, cap, f, args, h2, h3, h4⟩ => ⟨h1, fv, cap, f, args, h2, h3, fun c cs hc => by
      obtain ⟨e, u', w', fr, hR, hs⟩ := h4 c cs hc
      refine ⟨e, u', w', fr, ?_, hs⟩
      cases e with
      | returned v => exact leaves_tmps h ds _ _ hR
      | panicked ch => exact leaves_tmps h ds _ _ hR
      | outgrown => exact hR⟩
theorem leaves_put {R : Ending → World → Prop} {d : Nat} {v : Value} (h2 : d ≠ 2) (h3 : d ≠ 3) (c : List PanicEntry) (a : Act) (w : World) (h : bodyPostD Try.prog Try.f11 R (.panic c) (a.put (some d) v) w) : bodyPostD Try.prog Try.f11 R (.panic c) a w := by
  refine leaves_tmps ?_ _ _ _ h
  simp [results, Try.results11, go_sem, Act.put, h2, h3]
set_option maxHeartbeats 4000000 in
set_option maxRecDepth 100000 in
theorem dec_bad (A0 : Option Addr) (c0 n : Nat) (r : List Int) (w : World) (hC : Kd.C (Kd.int .u8) w A0 (r.length + 1) ((n : Int) :: r)) (hc : r.length + 1 ≤ c0) (hl : r.length + 1 ≤ 140800000000000) (h12 : n ≤ 12) (h0 : 0 < n) (hv : valD r = some .bad) : Calls Try.prog 11 #[.slice A0 (r.length + 1) c0] w (DecPost w [] 41) := by
  have HV := Lib.hid hv
  clear hv
  have hmf : ∀ (fn : Fn) (first cap : Array Value) (w : World), (Instr.makeFunc fn first cap).run Try.prog w = .ok (.func fn first cap) w := fun _ _ _ _ => rfl

  have HC := Lib.hid hC
  have HL := Lib.hid hl
  have Hc := Lib.hid hc
  clear hC hl hc
  go_enter_defers Try.func11, Try.ntmps11
  go_wp2_with fail
  refine (take_yes w _ (w.heap.size + 2) ((n : Int) :: r) 1 ⟨A0, c0, zb3 w _ _ _, Hc.out, trivial, HL.out, HC.out⟩ (by simp) (by omega)).mono ?_
  rintro e w1 ⟨A1, c1, rfl, hc1, hC1, hR1, hBut⟩
  obtain ⟨hp, hq, hb1, hz1⟩ := start3 hBut
  obtain ⟨ad, rfl, hd⟩ := C_at (Kd.C_below hC1 hb1) 0 (by simp)
  have ea : ad.add 0 = ad := by simp [Addr.add]
  rw [ea] at hd
  simp only [List.take_succ_cons, List.take_zero, List.getD_cons_zero] at hd
  simp only [List.drop_succ_cons, List.drop_zero] at hR1
  have HR1 := Lib.hid hR1
  have HP := Lib.hid hp
  have HQ := Lib.hid hq
  have HB1 := Lib.hid hb1
  have HZ1 := Lib.hid hz1
  clear hC1 hBut ea hR1 hb1 hz1 hp hq
  go_wp2_with fail
  go_loopw [20] (fun i wr => i = .int .i64 0 ∧ Rd w wr (w.heap.size + 2) r ∧ wr.heap[w.heap.size]? = some (.cells #[.slice none 0 0] 24 (0, 0)) ∧ wr.heap[w.heap.size + 1]? = some (.cells #[.int .i64 0] 27 (0, 0)) ∧ Below w.heap.size w wr ∧ w.heap.size + 3 ≤ wr.heap.size) (fun i _ => n - (intOf i).toNat)
  case atStart => exact ⟨rfl, HR1.out, HP.out, HQ.out, HB1.out, by rw [HZ1.out]; exact Nat.le_refl _⟩
  case round =>
    obtain ⟨rfl, hR, hp, hq, hB, hbig⟩ := hrel
    have cp : wr.cell? ⟨w.heap.size, 0, none⟩ = some (.slice none 0 0) := by simp [World.cell?, hp]
    have HRR := Lib.hid hR
    have HPP := Lib.hid hp
    have HQQ := Lib.hid hq
    have HBB := Lib.hid hB
    clear hR hp hq hB HP HQ HB1 HZ1 HR1 hd
    go_wp2_with fail
    refine Go.Proofs.YthcoiomnlcagcaaW.PrintLast.start_ (n := 6) (S := fun v => v.cell? ⟨w.heap.size, 0, none⟩ = some (.slice none 0 0)) (ds := [5]) #[false, false, false, false, false, false] (by kernel_rfl) rfl rfl cp (fun hHeld => ?_)
    refine Go.Proofs.YthcoiomnlcagcaaW.PrintLast.take_ (i := 0) (N := some 22) (v := ?_) (a' := ?_) #[true, false, false, false, false, false] rfl rfl (by kernel_rfl) (leaves_put (d := 22) (by decide) (by decide)) (Or.inl ⟨by rfl, ?_⟩) hHeld ?_ ?_
    rotate_left
    · rintro w' hc5
      go_simp
      with_reducible rfl
    rotate_left
    · simp only [Act.put, List.setIfInBounds_toArray, List.set_cons_zero, List.set_cons_succ, Go.Proofs.YthcoiomnlcagcaaW.PrintLast.i64_w, Go.Proofs.YthcoiomnlcagcaaW.PrintLast.i32_w]
      rfl
    refine Go.Proofs.YthcoiomnlcagcaaW.PrintLast.pure_ (i := 1) (N := some 23) (v := ?_) (a' := ?_) #[true, true, false, false, false, false] rfl rfl (by kernel_rfl) (leaves_put (d := 23) (by decide) (by decide)) (Or.inl ⟨by rfl, ?_⟩) ?_ ?_
    rotate_left
    · intro w'
      go_simp
      with_reducible rfl
    rotate_left
    · simp only [Act.put, List.setIfInBounds_toArray, List.set_cons_zero, List.set_cons_succ, Go.Proofs.YthcoiomnlcagcaaW.PrintLast.i64_w, Go.Proofs.YthcoiomnlcagcaaW.PrintLast.i32_w]
      rfl
    refine Go.Proofs.YthcoiomnlcagcaaW.PrintLast.one_ (i := 2) (N := some 24) #[true, true, true, false, false, false] rfl rfl (by kernel_rfl) (by decide) (fun K hK => ?_)
    refine goesP_ Try.func22 (by kernel_rfl) rfl #[.pointer (some ⟨w.heap.size + 2, 0, none⟩)] (by rfl) rfl (by (try simp only [List.map_toArray, List.map_cons, List.map_nil]); first | done | rfl) ?_
    refine (value_any w wr.drew (w.heap.size + 2) r .bad (show Rd w wr.drew _ _ from HRR.out) HBB.out.drew (by omega) HV.out).mono ?_
    rintro e w'' ⟨hg, rfl⟩
    have hB2 : Below w.heap.size w w'' := hg.blw HBB.out.drew (by omega)
    obtain ⟨g1, g2, g3, g4, g5⟩ := hg
    replace g5 : ∀ i, i < wr.heap.size → i ≠ w.heap.size + 2 → w''.heap[i]? = wr.heap[i]? := g5
    replace g4 : wr.heap.size ≤ w''.heap.size := g4
    refine ⟨_, rfl, ?_⟩
    have cp2 : w''.cell? ⟨w.heap.size, 0, none⟩ = some (.slice none 0 0) := by simp [World.cell?, g5 w.heap.size (by omega) (by omega), HPP.out]
    have fp2 : w''.frozen? ⟨w.heap.size, 0, none⟩ = false := by simp [World.frozen?, g5 w.heap.size (by omega) (by omega), HPP.out]
    have cq2 : w''.cell? ⟨w.heap.size + 1, 0, none⟩ = some (.int .i64 0) := by simp [World.cell?, g5 (w.heap.size + 1) (by omega) (by omega), HQQ.out]
    have fq2 : w''.frozen? ⟨w.heap.size + 1, 0, none⟩ = false := by simp [World.frozen?, g5 (w.heap.size + 1) (by omega) (by omega), HQQ.out]
    have hz2 : w.heap.size + 1 < w''.heap.size := by omega
    have hz3 : w.heap.size < w''.heap.size := by omega
    refine leaves_cons (f := 20) (args := #[.pointer (some ⟨w.heap.size, 0, none⟩), .pointer (some ⟨w.heap.size + 1, 0, none⟩)]) (by simp) (by simp [go_sem]) ?_
    refine (catch_pan w.heap.size (w.heap.size + 1) (.slice none 0 0) (.int .i64 0) _ cp2 fp2 cq2 fq2 (by omega) (by omega) (by omega) (by omega)).mono ?_
    rintro e u' w3 ⟨rfl, rfl, rfl⟩
    simp [Leaves, settle, results, Try.results11, go_sem, cp2, cq2, hz2, hz3]
    exact ⟨_, rfl, ⟨rfl, .inl ⟨rfl, rfl⟩⟩, ((hB2.setCell (Nat.le_refl _) _).setCell (by simp) _).alloc (by simp; omega) _⟩
end Rw
end Go.Proofs.Ythcoiomnlcagcaa

namespace Go.Proofs.Ythcoiomnlcagcaa
open Go.RowKit Go.Proofs.Ythcoiomnlcagcaa.PRG Go.Proofs.YthcoiomnlcagcaaW.PrintWords Go.Proofs.YthcoiomnlcagcaaW.PrintLast
set_option linter.unusedVariables false
set_option linter.unusedSimpArgs false
namespace Rw

theorem cell_al (w : World) (o : Obj) (i : Nat) (v : Value) (h : w.heap[i]? = some (.cells #[v] 24 (0, 0))) : (w.alloc o).cell? ⟨i, 0, none⟩ = some v := by
  have hi : i < w.heap.size := (Array.getElem?_eq_some_iff.1 h).1
  have e : (w.alloc o).heap[i]? = w.heap[i]? := (Array.getElem?_push_lt (xs := w.heap) (x := o) hi).trans (Array.getElem?_eq_getElem hi).symm
  simp [World.cell?, e, h]
set_option maxHeartbeats 4000000 in
set_option maxRecDepth 100000 in
theorem dec_yes (A0 : Option Addr) (c0 n : Nat) (r : List Int) (w : World) (T : Rr) (xsF : List V4) (mF : Int) (hC : Kd.C (Kd.int .u8) w A0 (r.length + 1) ((n : Int) :: r)) (hc : r.length + 1 ≤ c0) (hl : r.length + 1 ≤ 140800000000000) (h12 : n ≤ 12) (hT : rowD n r = some T) (hf : fin T = (xsF, mF)) : Calls Try.prog 11 #[.slice A0 (r.length + 1) c0] w (DecPost w xsF mF) := by
  have HT := Lib.hid hT
  have HF := Lib.hid hf
  clear hT hf
  have hmf : ∀ (fn : Fn) (first cap : Array Value) (w : World), (Instr.makeFunc fn first cap).run Try.prog w = .ok (.func fn first cap) w := fun _ _ _ _ => rfl

  have HC := Lib.hid hC
  have HL := Lib.hid hl
  have Hc := Lib.hid hc
  clear hC hl hc
  go_enter_defers Try.func11, Try.ntmps11
  go_wp2_with fail
  refine (take_yes w _ (w.heap.size + 2) ((n : Int) :: r) 1 ⟨A0, c0, zb3 w _ _ _, Hc.out, trivial, HL.out, HC.out⟩ (by simp) (by omega)).mono ?_
  rintro e w1 ⟨A1, c1, rfl, hc1, hC1, hR1, hBut⟩
  obtain ⟨hp, hq, hb1, hz1⟩ := start3 hBut
  obtain ⟨ad, rfl, hd⟩ := C_at (Kd.C_below hC1 hb1) 0 (by simp)
  have ea : ad.add 0 = ad := by simp [Addr.add]
  rw [ea] at hd
  simp only [List.take_succ_cons, List.take_zero, List.getD_cons_zero] at hd
  simp only [List.drop_succ_cons, List.drop_zero] at hR1
  have HR1 := Lib.hid hR1
  have HP := Lib.hid hp
  have HQ := Lib.hid hq
  have HB1 := Lib.hid hb1
  have HZ1 := Lib.hid hz1
  clear hC1 hBut ea hR1 hb1 hz1 hp hq
  go_wp2_with fail
  go_loopw [20] (fun i wr => LpR w n T i wr) (fun i _ => n - (intOf i).toNat)
  case atStart => exact ⟨0, [], r, .slice none 0 0, rfl, ⟨Nat.zero_le _, HR1.out, HP.out, HQ.out, ⟨rfl, .inl ⟨rfl, rfl⟩⟩, rfl, by rw [Nat.sub_zero, HT.out]; simp [pre_nil], HB1.out, by rw [HZ1.out]; exact Nat.le_refl _⟩⟩
  case round =>
    obtain ⟨k, xs, li, v, rfl, hL⟩ := hrel
    obtain ⟨cp, fp, cq, fq⟩ := hL.cells
    have LL := Lib.hid hL
    have hkn := hL.kn
    have hbig := hL.big
    clear hL HP HQ HB1 HZ1 HR1 hd
    by_cases hk : k < n
    · cases hv : valD li with
      | none => exact (LL.out.none_ hk hv).elim
      | some ou =>
        have HV := Lib.hid hv
        clear hv
        cases ou with
        | bad =>
          have hTn : T = none := LL.out.bad hk HV.out
          have hFF := HF.out
          rw [hTn] at hFF
          simp only [fin, Prod.mk.injEq] at hFF
          obtain ⟨rfl, rfl⟩ := hFF
          go_wp2_with fail
          refine Go.Proofs.YthcoiomnlcagcaaW.PrintLast.start_ (n := 6) (S := fun W_ => W_.cell? ⟨w.heap.size, 0, none⟩ = some v) (ds := [5]) #[false, false, false, false, false, false] (by kernel_rfl) rfl rfl cp (fun hHeld => ?_)
          refine Go.Proofs.YthcoiomnlcagcaaW.PrintLast.take_ (i := 0) (N := some 22) (v := ?_) (a' := ?_) #[true, false, false, false, false, false] rfl rfl (by kernel_rfl) (leaves_put (d := 22) (by decide) (by decide)) (Or.inl ⟨by rfl, ?_⟩) hHeld ?_ ?_
          rotate_left
          · rintro w' hc5
            go_simp
            with_reducible rfl
          rotate_left
          · simp only [Act.put, List.setIfInBounds_toArray, List.set_cons_zero, List.set_cons_succ, Go.Proofs.YthcoiomnlcagcaaW.PrintLast.i64_w, Go.Proofs.YthcoiomnlcagcaaW.PrintLast.i32_w]
            rfl
          refine Go.Proofs.YthcoiomnlcagcaaW.PrintLast.pure_ (i := 1) (N := some 23) (v := ?_) (a' := ?_) #[true, true, false, false, false, false] rfl rfl (by kernel_rfl) (leaves_put (d := 23) (by decide) (by decide)) (Or.inl ⟨by rfl, ?_⟩) ?_ ?_
          rotate_left
          · intro w'
            go_simp
            with_reducible rfl
          rotate_left
          · simp only [Act.put, List.setIfInBounds_toArray, List.set_cons_zero, List.set_cons_succ, Go.Proofs.YthcoiomnlcagcaaW.PrintLast.i64_w, Go.Proofs.YthcoiomnlcagcaaW.PrintLast.i32_w]
            rfl
          refine Go.Proofs.YthcoiomnlcagcaaW.PrintLast.one_ (i := 2) (N := some 24) #[true, true, true, false, false, false] rfl rfl (by kernel_rfl) (by decide) (fun K hK => ?_)
          refine goesP_ Try.func22 (by kernel_rfl) rfl #[.pointer (some ⟨w.heap.size + 2, 0, none⟩)] (by rfl) rfl (by (try simp only [List.map_toArray, List.map_cons, List.map_nil]); first | done | rfl) ?_
          refine (value_any w wr.drew (w.heap.size + 2) li .bad (show Rd w wr.drew _ _ from LL.out.rd) LL.out.bel.drew (by omega) HV.out).mono ?_
          rintro e w'' ⟨hg, rfl⟩
          have hB2 : Below w.heap.size w w'' := hg.blw LL.out.bel.drew (by omega)
          obtain ⟨g1, g2, g3, g4, g5⟩ := hg
          replace g5 : ∀ i, i < wr.heap.size → i ≠ w.heap.size + 2 → w''.heap[i]? = wr.heap[i]? := g5
          replace g4 : wr.heap.size ≤ w''.heap.size := g4
          refine ⟨_, rfl, ?_⟩
          have cp2 : w''.cell? ⟨w.heap.size, 0, none⟩ = some v := by simp [World.cell?, g5 w.heap.size (by omega) (by omega), LL.out.row]
          have fp2 : w''.frozen? ⟨w.heap.size, 0, none⟩ = false := by simp [World.frozen?, g5 w.heap.size (by omega) (by omega), LL.out.row]
          have cq2 : w''.cell? ⟨w.heap.size + 1, 0, none⟩ = some (.int .i64 0) := by simp [World.cell?, g5 (w.heap.size + 1) (by omega) (by omega), LL.out.err]
          have fq2 : w''.frozen? ⟨w.heap.size + 1, 0, none⟩ = false := by simp [World.frozen?, g5 (w.heap.size + 1) (by omega) (by omega), LL.out.err]
          have hz2 : w.heap.size + 1 < w''.heap.size := by omega
          have hz3 : w.heap.size < w''.heap.size := by omega
          refine leaves_cons (f := 20) (args := #[.pointer (some ⟨w.heap.size, 0, none⟩), .pointer (some ⟨w.heap.size + 1, 0, none⟩)]) (by simp) (by simp [go_sem]) ?_
          refine (catch_pan w.heap.size (w.heap.size + 1) v (.int .i64 0) _ cp2 fp2 cq2 fq2 (by omega) (by omega) (by omega) (by omega)).mono ?_
          rintro e u' w3 ⟨rfl, rfl, rfl⟩
          simp [Leaves, settle, results, Try.results11, go_sem, cp2, cq2, hz2, hz3]
          exact ⟨_, rfl, ⟨rfl, .inl ⟨rfl, rfl⟩⟩, ((hB2.setCell (Nat.le_refl _) _).setCell (by simp) _).alloc (by simp; omega) _⟩
        | val a b s d rest =>
          go_wp2_with fail
          refine Go.Proofs.YthcoiomnlcagcaaW.PrintLast.start_ (n := 6) (S := fun W_ => W_.cell? ⟨w.heap.size, 0, none⟩ = some v) (ds := [5]) #[false, false, false, false, false, false] (by kernel_rfl) rfl rfl cp (fun hHeld => ?_)
          refine Go.Proofs.YthcoiomnlcagcaaW.PrintLast.take_ (i := 0) (N := some 22) (v := ?_) (a' := ?_) #[true, false, false, false, false, false] rfl rfl (by kernel_rfl) (leaves_put (d := 22) (by decide) (by decide)) (Or.inl ⟨by rfl, ?_⟩) hHeld ?_ ?_
          rotate_left
          · rintro w' hc5
            go_simp
            with_reducible rfl
          rotate_left
          · simp only [Act.put, List.setIfInBounds_toArray, List.set_cons_zero, List.set_cons_succ, Go.Proofs.YthcoiomnlcagcaaW.PrintLast.i64_w, Go.Proofs.YthcoiomnlcagcaaW.PrintLast.i32_w]
            rfl
          refine Go.Proofs.YthcoiomnlcagcaaW.PrintLast.pure_ (i := 1) (N := some 23) (v := ?_) (a' := ?_) #[true, true, false, false, false, false] rfl rfl (by kernel_rfl) (leaves_put (d := 23) (by decide) (by decide)) (Or.inl ⟨by rfl, ?_⟩) ?_ ?_
          rotate_left
          · intro w'
            go_simp
            with_reducible rfl
          rotate_left
          · simp only [Act.put, List.setIfInBounds_toArray, List.set_cons_zero, List.set_cons_succ, Go.Proofs.YthcoiomnlcagcaaW.PrintLast.i64_w, Go.Proofs.YthcoiomnlcagcaaW.PrintLast.i32_w]
            rfl
          refine Go.Proofs.YthcoiomnlcagcaaW.PrintLast.one_ (i := 2) (N := some 24) #[true, true, true, false, false, false] rfl rfl (by kernel_rfl) (by decide) (fun K hK => ?_)
          refine Go.Proofs.YthcoiomnlcagcaaW.PrintLast.goes_ Try.func22 (by kernel_rfl) rfl #[.pointer (some ⟨w.heap.size + 2, 0, none⟩)] (by rfl) rfl rfl (by (try simp only [List.map_toArray, List.map_cons, List.map_nil]); first | done | rfl) ?_
          refine (value_any w wr.drew (w.heap.size + 2) li (.val a b s d rest) (show Rd w wr.drew _ _ from LL.out.rd) LL.out.bel.drew (by omega) HV.out).mono ?_
          rintro e w2 ⟨hg, rfl, hR2⟩
          have hB2 : Below w.heap.size w w2 := hg.blw LL.out.bel.drew (by omega)
          obtain ⟨g1, g2, g3, g4, g5⟩ := hg
          replace g5 : ∀ i, i < wr.heap.size → i ≠ w.heap.size + 2 → w2.heap[i]? = wr.heap[i]? := g5
          replace g4 : wr.heap.size ≤ w2.heap.size := g4
          have hrow2 : w2.heap[w.heap.size]? = some (.cells #[v] 24 (0, 0)) := (g5 w.heap.size (by omega) (by omega)).trans LL.out.row
          refine ⟨_, rfl, ?_⟩
          refine hK.out _ _ (by simp [World.cell?, hrow2]) (fun hHeld2 => ?_)
          clear hK K
          refine Go.Proofs.YthcoiomnlcagcaaW.PrintLast.norm_ (a' := ?_) ?_ ?_
          rotate_left
          · show Act.put _ (some 24) _ = _
            simp only [Act.put, List.setIfInBounds_toArray, List.set_cons_zero, List.set_cons_succ, Go.Proofs.YthcoiomnlcagcaaW.PrintLast.i64_w, Go.Proofs.YthcoiomnlcagcaaW.PrintLast.i32_w]
            rfl
          refine Go.Proofs.YthcoiomnlcagcaaW.PrintLast.one_ (i := 3) (N := some 25) #[true, true, true, true, false, false] rfl rfl (by kernel_rfl) (by decide) (fun K hK => ?_)
          refine Go.Proofs.YthcoiomnlcagcaaW.PrintLast.value_ (w1 := w2.alloc (.cells #[.int .i64 a, .int .i64 b, .string s, .bool d] 40)) (v := .slice (some ⟨w2.heap.size, 0, none⟩) 1 1) (by rfl) rfl (by go_simp) ?_
          refine hK.out _ _ (cell_al _ _ _ _ hrow2) (fun hHeld3 => ?_)
          clear hK K
          refine Go.Proofs.YthcoiomnlcagcaaW.PrintLast.norm_ (a' := ?_) ?_ ?_
          rotate_left
          · show Act.put _ (some 25) _ = _
            simp only [Act.put, List.setIfInBounds_toArray, List.set_cons_zero, List.set_cons_succ, Go.Proofs.YthcoiomnlcagcaaW.PrintLast.i64_w, Go.Proofs.YthcoiomnlcagcaaW.PrintLast.i32_w]
            rfl
          refine Go.Proofs.YthcoiomnlcagcaaW.PrintLast.one_ (i := 4) (N := some 26) #[true, true, true, true, true, false] rfl rfl (by kernel_rfl) (by decide) (fun K hK => ?_)
          have hown2 : w2.ownsRow (w.heap.size + 3) 40 4 v k (rowC xs) := by
            obtain ⟨o1, o2⟩ := LL.out.own
            refine ⟨o1, ?_⟩
            rcases o2 with o2 | ⟨g, cap, cur, q1, q2, q3, q4⟩
            · exact .inl o2
            · exact .inr ⟨g, cap, cur, q1, q2, (g5 g (Array.getElem?_eq_some_iff.1 q3).1 (by omega)).trans q3, q4⟩
          refine step_append_cells (w0 := w2) (W := w2) (w.heap.size + 3) (by rfl) (.tmp 22) (.tmp 25) 24 40 (.agg #[.int .i64 0, .int .i64 0, .string ⟨#[]⟩, .bool false]) 4 40 rfl Try.underlying24 info40 (by rfl) (by decide) (by decide) v k (rowC xs) (cells4 (a, b, s, d)) (by rfl) (by rfl) (by rfl) (by simp [cells4, Value.oneCell']) hown2 (Below.refl _ _) (by omega) (by omega) (fun v1 w3 hown3 hB3 hg3 hv3 => ?_)
          have hrow3 : w3.heap[w.heap.size]? = some (.cells #[v] 24 (0, 0)) := (hB3.block _ (by omega)).trans hrow2
          have hc3 : w3.cell? ⟨w.heap.size, 0, none⟩ = some v := by simp [World.cell?, hrow3]
          have hf3 : w3.frozen? ⟨w.heap.size, 0, none⟩ = false := by simp [World.frozen?, hrow3]
          obtain ⟨A1, n1, c1', rfl⟩ : ∃ A m c, v1 = .slice A m c := by
            rcases hown3.2 with ⟨q, _⟩ | ⟨g, cap, cur, q, _⟩
            · exact ⟨_, _, _, q⟩
            · exact ⟨_, _, _, q⟩
          refine hK.out _ _ hc3 (fun hHeld4 => ?_)
          clear hK K
          refine Go.Proofs.YthcoiomnlcagcaaW.PrintLast.norm_ (a' := ?_) ?_ ?_
          rotate_left
          · show Act.put _ (some 26) _ = _
            simp only [Act.put, List.setIfInBounds_toArray, List.set_cons_zero, List.set_cons_succ, Go.Proofs.YthcoiomnlcagcaaW.PrintLast.i64_w, Go.Proofs.YthcoiomnlcagcaaW.PrintLast.i32_w]
            rfl
          refine Go.Proofs.YthcoiomnlcagcaaW.PrintLast.last_ (i := 5) (N := none) #[true, true, true, true, true, true] rfl rfl (by kernel_rfl) (by decide) (fun K hK => ?_)
          refine Go.Proofs.YthcoiomnlcagcaaW.PrintLast.skip_ (w1 := w3.setCell ⟨w.heap.size, 0, none⟩ (.slice A1 n1 c1')) (by rfl) rfl (by go_simp) ?_
          refine hK.out _ _ ?_
          clear hK K
          refine Go.Proofs.YthcoiomnlcagcaaW.PrintLast.done_ (by kernel_rfl) ?_
          go_wp2_with fail
          go_roundw
          case rel =>
            have hbk : ∀ i, i < w.heap.size + 3 → w3.heap[i]? = w2.heap[i]? := fun i hi => hB3.block i hi
            have ho : ∀ i, i ≠ w.heap.size → (w3.setCell ⟨w.heap.size, 0, none⟩ (.slice A1 n1 c1')).heap[i]? = w3.heap[i]? := fun i hi => by simp [World.setCell, Array.getElem?_modify, Ne.symm hi]
            refine ⟨k + 1, xs ++ [(a, b, s, d)], rest, .slice A1 n1 c1', by go_num, ⟨by omega, hR2.other ((ho _ (by omega)).trans (hbk _ (by omega))), ?_, ?_, ?_, by have := LL.out.len; simp [this], LL.out.next hk HV.out, ?_, ?_⟩⟩
            · simp [World.setCell, Array.getElem?_modify, hrow3]
            · exact ((ho _ (by omega)).trans (hbk _ (by omega))).trans ((g5 _ (by omega) (by omega)).trans LL.out.err)
            · rw [rowC_snoc]
              obtain ⟨o1, o2⟩ := hown3
              refine ⟨o1, ?_⟩
              rcases o2 with o2 | ⟨g, cap, cur, q1, q2, q3, q4⟩
              · exact .inl o2
              · exact .inr ⟨g, cap, cur, q1, q2, (ho g (by omega)).trans q3, q4⟩
            · exact (hB2.trans (hB3.mono (by omega))).setCell (Nat.le_refl _) _
            · have hs3 := hB3.size
              have : (w3.setCell ⟨w.heap.size, 0, none⟩ (.slice A1 n1 c1')).heap.size = w3.heap.size := by simp [World.setCell]
              omega
          case measure => simp [intOf]; omega
    · have hTe := LL.out.end_ hk
      have hFF := HF.out
      rw [hTe] at hFF
      obtain ⟨Ar, cr, hb, hcap, -, hl2, hC2⟩ := LL.out.rd
      have crd : wr.cell? ⟨w.heap.size + 1 + 1, 0, none⟩ = some (.slice Ar li.length cr) := by simp [World.cell?, show w.heap.size + 1 + 1 = w.heap.size + 2 from rfl, hb]
      clear hb hC2
      obtain ⟨Av, nv, cv, rfl⟩ : ∃ A m c, v = .slice A m c := by
        rcases LL.out.own.2 with ⟨h1, _⟩ | ⟨g, cap, cur, h1, _⟩
        · exact ⟨_, _, _, h1⟩
        · exact ⟨_, _, _, h1⟩
      have hz2 : w.heap.size + 1 < wr.heap.size := by omega
      have hz3 : w.heap.size < wr.heap.size := by omega
      by_cases h0 : 0 < li.length
      · have hli : li ≠ [] := by rintro rfl; simp at h0
        simp only [fin, if_neg hli, Prod.mk.injEq] at hFF
        obtain ⟨rfl, rfl⟩ := hFF
        go_wp2_with fail
        refine leaves_cons (f := 20) (args := #[.pointer (some ⟨w.heap.size, 0, none⟩), .pointer (some ⟨w.heap.size + 1, 0, none⟩)]) (by simp) (by simp [go_sem]) ?_
        refine (catch_pan w.heap.size (w.heap.size + 1) _ (.int .i64 0) _ cp fp cq fq hz3 hz2 (by omega) (by omega)).mono ?_
        rintro e u' w3 ⟨rfl, rfl, rfl⟩
        simp [Leaves, settle, results, Try.results11, go_sem, cp, cq, hz2, hz3]
        exact ⟨_, rfl, ⟨rfl, .inl ⟨rfl, rfl⟩⟩, ((LL.out.bel.setCell (Nat.le_refl _) _).setCell (by simp) _).alloc (by simp; omega) _⟩
      · have hli : li = [] := by cases li with | nil => rfl | cons => simp at h0
        simp only [fin, if_pos hli, Prod.mk.injEq] at hFF
        obtain ⟨rfl, rfl⟩ := hFF
        obtain ⟨hol, ho⟩ := LL.out.own
        have hlen := LL.out.len
        go_wp2_with fail
        refine leaves_cons (f := 20) (args := #[.pointer (some ⟨w.heap.size, 0, none⟩), .pointer (some ⟨w.heap.size + 1, 0, none⟩)]) (by simp) (by simp [go_sem]) ?_
        refine (catch_idle _ _ _).mono ?_
        rintro e u' w3 ⟨rfl, rfl, rfl⟩
        simp [Leaves, settle, results, Try.results11, go_sem, cp, cq, hz2, hz3]
        refine ⟨_, rfl, ?_, (LL.out.bel.setCell (Nat.le_refl _) _).setCell (by simp) _⟩
        subst hlen
        refine ⟨hol, ?_⟩
        rcases ho with ⟨h1, h2⟩ | ⟨g, cap, cur, h1, h2, h3, h4⟩
        · exact .inl ⟨h1, h2⟩
        · refine .inr ⟨g, cap, cur, h1, by omega, ?_, h4⟩
          simp [World.setCell, Array.getElem?_modify, show ¬ w.heap.size = g from by omega, show ¬ w.heap.size + 1 = g from by omega, h3]
end Rw
end Go.Proofs.Ythcoiomnlcagcaa

namespace Go.Proofs.Ythcoiomnlcagcaa
open Go.RowKit Go.Proofs.YthcoiomnlcagcaaW.PrintWords Go.Proofs.YthcoiomnlcagcaaW.PrintLast Go.Proofs.YthcoiomnlcagcaaW.PrintMore
set_option linter.unusedVariables false
set_option linter.unusedSimpArgs false
namespace Rw
theorem grow_le (need : Nat) (hn : need ≤ 140800000000000) : ∀ r c, c ≤ 176000000000192 → Builtin.growBy need r c ≤ 176000000000192
  | 0, c, h => h
  | r + 1, c, h => by
    unfold Builtin.growBy
    split
    · exact h
    · exact grow_le need hn r _ (by omega)
theorem cap_le (need old : Nat) (ho : old < need) (hn : need ≤ 140800000000000) : Builtin.nextslicecap need old ≤ 281474976710656 := by
  unfold Builtin.nextslicecap
  split
  · omega
  split
  · omega
  · have := grow_le need hn 4 old (by omega)
    omega
/-- append to a row of one's own, of elements of one byte: it has room, or a new row is made -/
theorem append_wide {P : Program} (w : World) (base : Nat) (t ty e : TypeId) (i : TypeInfo) (z : Value) (size : Nat) (ht : P.underlying t = some (.slice e)) (hi : P.info? e = some i) (hz : i.zero = some z)
    (hsize : i.size = size) (hby : i.bytes = 1) (hzs : z.cells.size = size) (hsz : 0 < size) (v : Value) (n : Nat) (xs : List Value) (hown : w.ownsRow base e size v n xs)
    (a : Addr) (m c : Nat) (news : List Value) (hl : news.length = m * size) (hnews : ∀ j u, news[j]? = some u → w.cell? (a.add j) = some u) (h1 : ∀ u ∈ news, u.oneCell' = true)
    (h63 : n + m ≤ maxLen) (hbytes : n + m ≤ 140800000000000) (hbase : base ≤ w.heap.size) :
    ∃ v' w', (Builtin.append_ #[t, t] ty #[v, .slice (some a) m c]).run P w = .ok v' w' ∧ w'.ownsRow base e size v' (n + m) (xs ++ news) ∧ w.grownBy w' v.ownBlock ∧ (v'.ownBlock = v.ownBlock ∨ v'.ownBlock = some w.heap.size) := by
  by_cases hsmall : n + m ≤ 140737488355328
  · obtain ⟨v', w', q1, q2, q3, _, q5⟩ := run_append_own_at (P := P) w base t ty e i z size 1 ht hi hz hsize hby hzs hsz v n xs hown a m c news hl hnews h1 h63 (by omega) hbase
    exact ⟨v', w', q1, q2, q3, q5⟩
  subst hsize
  have len : (xs ++ news).length = (n + m) * i.size := by rw [List.length_append, hown.1, hl, ← Nat.add_mul]
  -- what a new row holds
  have fresh : ∀ old, World.ownsRow (w.drew.alloc (.cells (xs.toArray ++ news.toArray ++ Builtin.zeroCells z.cells (grownCap w (n + m) old e - (n + m))) e)) base e i.size (.slice (some ⟨w.heap.size, 0, none⟩) (n + m) (grownCap w (n + m) old e)) (n + m) (xs ++ news) := by
    intro old
    refine ⟨len, .inr ⟨w.heap.size, _, _, rfl, hbase, heap_alloc_new w.drew _, grownCap_ge _ _ _ _, grownCap_le_maxLen _ _ _ _ h63, ?_, ?_⟩⟩
    · have hge := grownCap_ge w (n + m) old e
      simp only [Array.size_append, List.size_toArray, size_zeroCells, hzs, hown.1, hl]
      rw [← Nat.add_mul, ← Nat.add_mul]
      congr 1
      omega
    · rw [Array.toList_append, Array.toList_append, ← len]
      exact List.take_left
  have by_ : ∀ (ob : Obj) (row : Option Nat), w.grownBy (w.drew.alloc ob) row := fun ob row => ⟨rfl, rfl, rfl, by simp, fun k hk _ => (heap_alloc_old w.drew _ hk)⟩
  rcases hown.2 with ⟨rfl, rfl⟩ | ⟨g, cap, cur, rfl, hbg, hg, hnc, hcm, hcs, htake⟩
  · obtain rfl : xs = [] := List.eq_nil_of_length_eq_zero (by simpa using hown.1)
    have hr := run_append_nil (P := P) w t ty e i z ht hi hz a m c news hl hnews (by omega) (by simp only [maxLen] at h63; omega) (by rw [hby]; omega)
    have hf := fresh 0
    simp only [Nat.zero_add, List.nil_append, Array.empty_append] at hf ⊢
    exact ⟨_, _, hr, hf, by_ _ _, .inr rfl⟩
  · by_cases room : n + m ≤ cap
    · have hr := run_append_room (P := P) w t ty e i ht hi g n cap cur hg a m c news hl hnews h1 room (by rw [hl, hcs, ← Nat.add_mul]; exact Nat.mul_le_mul_right _ room)
      refine ⟨_, _, hr, ⟨len, .inr ⟨g, cap, _, rfl, hbg, setRow_heap w g cur _ e _ hg, room, hcm, ?_, ?_⟩⟩, ⟨rfl, rfl, rfl, by simp, fun k _ hk => setRow_other w g k _ (fun q => hk (by simp [Value.ownBlock, q]))⟩, .inl rfl⟩
      · have := Nat.mul_le_mul_right i.size room
        rw [Nat.add_mul] at this
        simp only [List.size_toArray, List.length_append, List.length_take, List.length_drop, Array.length_toList]
        omega
      · rw [htake, ← len]
        exact List.take_left
    · have hr := run_append_grow (P := P) w t ty e i z ht hi hz ⟨g, 0, none⟩ n cap xs hown.1 (hown.cells (g := g) rfl) a m c news hl hnews (by omega) (by simp only [maxLen] at h63; omega) (by rw [hby, Nat.mul_one]; exact cap_le _ _ (by omega) hbytes)
      exact ⟨_, _, hr, fresh cap, by_ _ _, .inr rfl⟩
section
open Kd
variable {P : Program} {ops : Array Oper} {rest : List Oper} {o : Oper} {a : Act} {Q : Exit → Act → World → Prop} {α : Type}
theorem R_append_wide (d : Kd α) {Rr : α → List Value → Prop} {w0 W : World} (base : Nat) (hgd : o.guard = none) (s x : Operand) (t e : TypeId) (z : Value) (bytes : Nat)
    (ho : o.op = .call { callee := .builtin .append, args := #[s, x], argTypes := #[t, t] })
    (ht : P.underlying t = some (.slice e)) (hinfo : (P.info? e).map (fun i => (i.zero, i.size, i.bytes)) = some (some z, d.sz, bytes)) (hz : z.cells.size = d.sz) (hs0 : 0 < d.sz) (hb0 : bytes = 1)
    (v : Value) (xs ys : List α) (A : Option Addr) (m c : Nat) (ok okp : Nat → Prop) (hs : a.eval s = v) (hx : a.eval x = .slice A m c)
    (HO : d.R e W base ok v xs) (HR : ReadsRow Rr d.sz W A m ys) (hKM : ∀ x cs, Rr x cs → d.M W base okp x cs) (hokp : ∀ k, okp k → ok k ∧ some k ≠ v.ownBlock) (hfresh : ∀ k, W.heap.size ≤ k → ok k)
    (HB : Below base w0 W) (hbase : base ≤ W.heap.size) (hl : (xs.length + m) * bytes ≤ 140800000000000)
    (h : ∀ v1 w1, d.R e w1 base ok v1 (xs ++ ys) → Below base w0 w1 → W.grownBy w1 v.ownBlock → (v1.ownBlock = v.ownBlock ∨ ∃ b, v1.ownBlock = some b ∧ W.heap.size ≤ b) → wpList P ops Q rest (a.put o.dst v1) w1) :
    wpList P ops Q (o :: rest) a W := by
  obtain ⟨i0, hi, hzz⟩ := Option.map_eq_some_iff.1 hinfo
  simp only [Prod.mk.injEq] at hzz
  obtain ⟨hz0, hz1, hz2⟩ := hzz
  have hm : ys.length = m := HR.1
  have hlen : xs.length + m ≤ 140800000000000 := (by subst hb0; omega)
  obtain ⟨hok, inner, hown, hr⟩ := HO
  have hrun : ∃ v1 w1, (Builtin.append_ #[t, t] o.type #[v, .slice A m c]).run P W = .ok v1 w1 ∧ d.R e w1 base ok v1 (xs ++ ys) ∧ W.grownBy w1 v.ownBlock ∧ (v1.ownBlock = v.ownBlock ∨ ∃ b, v1.ownBlock = some b ∧ W.heap.size ≤ b) := by
    rcases A with _ | ad
    · have h0 : m = 0 := by
        rcases Nat.eq_zero_or_pos m with h0 | h0
        · exact h0
        · obtain ⟨ad, h, _⟩ := HR.2.2 h0
          cases h
      subst h0
      obtain rfl : ys = [] := List.eq_nil_of_length_eq_zero hm
      refine ⟨v, W, ?_, by rw [List.append_nil]; exact ⟨hok, inner, hown, hr⟩, World.grownBy.refl W _, .inl rfl⟩
      rcases hown.2 with ⟨rfl, hn⟩ | ⟨g, cap, cur, rfl, _, _, hnc, _⟩
      · simp [Builtin.append_, run_underlying ht, sizeOf, typeInfo, hi, Builtin.lenOf, Builtin.firstCells]
      · simp [Builtin.append_, run_underlying ht, sizeOf, typeInfo, hi, Builtin.lenOf, Builtin.firstCells, hnc, storeCells]
    · obtain ⟨news, hnr, hnc⟩ := ReadsRow.inner_ HR
      have hnM : Reps (d.M W base okp) d.sz ys news := hnr.imp_ (fun p c hp => hKM p c hp)
      have hone : ∀ u ∈ news, u.oneCell' = true := by
        intro u hu
        obtain ⟨q, hq, rfl⟩ := List.mem_iff_getElem.1 hu
        have hql : q / d.sz < ys.length := by
          rw [Nat.div_lt_iff_lt_mul hs0]
          rw [← hnM.1]
          exact hq
        have hc := hnM.2 (q / d.sz) _ (List.getElem?_eq_getElem hql)
        refine d.K_one (d.K_of_M hc) _ ?_
        rw [List.mem_iff_getElem?]
        refine ⟨q % d.sz, ?_⟩
        rw [List.getElem?_take, if_pos (Nat.mod_lt _ hs0), List.getElem?_drop, Nat.mul_comm, Nat.div_add_mod, List.getElem?_eq_getElem hq]
      obtain ⟨v1, w1, hrun, h2, hg, hat⟩ := append_wide (P := P) W base t o.type e i0 z d.sz ht hi hz0 hz1 (hz2.trans hb0) hz hs0 v xs.length inner hown ad m c news (by rw [hnM.1, hm]) hnc hone (by simp only [maxLen]; omega) (by subst hb0; omega) hbase
      have hat' : v1.ownBlock = v.ownBlock ∨ ∃ b, v1.ownBlock = some b ∧ W.heap.size ≤ b := by
        rcases hat with hat | hat
        · exact .inl hat
        · exact .inr ⟨_, hat, Nat.le_refl _⟩
      have hne : ∀ k, some k ≠ v.ownBlock → k < W.heap.size → some k ≠ v1.ownBlock := by
        intro k hk hlt
        rcases hat' with hat | ⟨b, hb, hle⟩
        · rw [hat]; exact hk
        · rw [hb]
          intro he
          injection he with he
          omega
      have step : ∀ {q : α} {c : List Value} {o : Nat → Prop}, d.M W base o q c → (∀ k, o k → ok k ∧ some k ≠ v.ownBlock) → d.M w1 base (fun k => ok k ∧ some k ≠ v1.ownBlock) q c := by
        intro q c o hq ho
        have h1 := d.M_move (w1 := w1) (fun k hk => hg.block k hk.2.2.1 (ho k hk.1).2) (d.M_bound hq)
        exact d.M_mono (fun k hk => ⟨(ho k hk.1).1, hne k (ho k hk.1).2 hk.2.2.1⟩) h1
      refine ⟨v1, w1, hrun, ⟨fun k hk => ?_, inner ++ news, by rw [List.length_append, hm]; exact h2, reps_append (hr.imp_ (fun _ _ hq => step hq (fun _ hk => hk))) (hnM.imp_ (fun _ _ hq => step hq hokp))⟩, hg, hat'⟩
      rcases hat' with hat | ⟨b, hb, hle⟩
      · exact hok k (hat ▸ hk)
      · rw [hb] at hk
        injection hk with hk
        exact hfresh k (by omega)
  obtain ⟨v1, w1, hr1, h1, hg, hat⟩ := hrun
  refine wpList_plain hgd fun K hK => ?_
  unfold Oper.wp execOp
  simp only [ho, resolve, invoke, builtin, Sem.run_bind, Sem.run_pure, Result.andThen_ok, List.map_toArray, List.map_cons, List.map_nil, hs, hx, hr1]
  exact hK _ _ (h v1 w1 h1 (HB.grown hg hbase (own_base hown)) hg hat)
end
end Rw
end Go.Proofs.Ythcoiomnlcagcaa

namespace Go.Proofs.Ythcoiomnlcagcaa.PRQ
open Go.RowKit Go.Proofs.YthcoiomnlcagcaaW.PrintWords Go.Proofs.YthcoiomnlcagcaaW.PrintLast Go.Proofs.YthcoiomnlcagcaaW.PrintMore
attribute [local go_sem] max2_int min2_int max_two min_two max_three min_three max_four min_four   -- for this text's walks alone
set_option linter.unusedVariables false
set_option linter.unusedSimpArgs false



def errW : Option Int → Value
  | none => .nilIface
  | some c => .iface 0 (.int .i64 c)
theorem errW_none : errW none = .nilIface := rfl
theorem errW_some (c : Int) : errW (some c) = .iface 0 (.int .i64 c) := rfl

theorem info5 : (Try.prog.info? 5).map (fun i => (i.zero, i.size, i.bytes)) = some (some (.int .u8 0), 1, 1) := by kernel_rfl
theorem info40 : (Try.prog.info? 40).map (fun i => (i.zero, i.size, i.bytes)) = some (some (.agg #[(.int .i64 0), (.int .i64 0), (.string ⟨#[]⟩), (.bool false)]), 4, 40) := by kernel_rfl
-- the values' own types
/-! #### struct type 44 -/
structure S44 where
  f0 : Int
  f1 : Int
  f2 : ByteArray
  f3 : Bool
def z44 : S44 := ⟨(0 : Int), (0 : Int), (⟨#[]⟩ : ByteArray), false⟩
def k44 : Kd S44 := Kd.iso (Kd.pair (Kd.int .i64) (Kd.pair (Kd.int .i64) (Kd.pair Kd.string Kd.bool))) (fun x : S44 => (x.f0, x.f1, x.f2, x.f3))
theorem k44_open {w : World} {x : S44} {cs : List Value} (h : k44.K w x cs) : cs = [.int .i64 x.f0, .int .i64 x.f1, .string x.f2, .bool x.f3] := by
  obtain ⟨_, _, rfl, rfl, ⟨_, _, rfl, rfl, ⟨_, _, rfl, rfl, rfl⟩⟩⟩ := h
  exact rfl
theorem k44_openM {w : World} {base : Nat} {ok : Nat → Prop} {x : S44} {cs : List Value} (h : k44.M w base ok x cs) : cs = [.int .i64 x.f0, .int .i64 x.f1, .string x.f2, .bool x.f3] := by
  obtain ⟨_, _, rfl, rfl, ⟨_, _, rfl, rfl, ⟨_, _, rfl, rfl, rfl⟩⟩⟩ := h
  exact rfl
theorem k44_mk (w : World) (x : S44)  : k44.K w x [.int .i64 x.f0, .int .i64 x.f1, .string x.f2, .bool x.f3] := ⟨[.int .i64 x.f0], [.int .i64 x.f1, .string x.f2, .bool x.f3], rfl, rfl, ⟨[.int .i64 x.f1], [.string x.f2, .bool x.f3], rfl, rfl, ⟨[.string x.f2], [.bool x.f3], rfl, rfl, rfl⟩⟩⟩
theorem k44_mkM (w : World) (base : Nat) (ok : Nat → Prop) (x : S44)  : k44.M w base ok x [.int .i64 x.f0, .int .i64 x.f1, .string x.f2, .bool x.f3] := ⟨[.int .i64 x.f0], [.int .i64 x.f1, .string x.f2, .bool x.f3], rfl, rfl, ⟨[.int .i64 x.f1], [.string x.f2, .bool x.f3], rfl, rfl, ⟨[.string x.f2], [.bool x.f3], rfl, rfl, rfl⟩⟩⟩
def rd_T44 (xs : List S44) (i : Int) : S44 := xs.getD i.toNat z44
theorem at_T44 {w : World} {A : Option Addr} {n : Nat} {xs : List S44} (h : Kd.C k44 w A n xs) (i : Int) (h0 : 0 ≤ i) (h1 : i < n) : ∃ ad , A = some ad ∧ w.cell? (ad.add (i.toNat * 4)) = some (.int .i64 (rd_T44 xs i).f0) ∧ w.cell? ⟨(ad.add (i.toNat * 4)).block, (ad.add (i.toNat * 4)).off + 1, none⟩ = some (.int .i64 (rd_T44 xs i).f1) ∧ w.cell? ⟨(ad.add (i.toNat * 4)).block, (ad.add (i.toNat * 4)).off + 2, none⟩ = some (.string (rd_T44 xs i).f2) ∧ w.cell? ⟨(ad.add (i.toNat * 4)).block, (ad.add (i.toNat * 4)).off + 3, none⟩ = some (.bool (rd_T44 xs i).f3) := by
  obtain ⟨ad, c, e, _, hK, hc0⟩ := Kd.C_get h z44 i h0 h1
  have hc : ∀ j u, c[j]? = some u → w.cell? (ad.add (i.toNat * 4 + j)) = some u := hc0
  obtain rfl := k44_open hK
  exact ⟨ad, e, hc 0 _ rfl, by rw [← add_field _ _ 1 (by omega)]; exact hc 1 _ rfl, by rw [← add_field _ _ 2 (by omega)]; exact hc 2 _ rfl, by rw [← add_field _ _ 3 (by omega)]; exact hc 3 _ rfl⟩

/-! #### struct type 40 -/
structure S40 where
  f0 : Int
  f1 : Int
  f2 : ByteArray
  f3 : Bool
def z40 : S40 := ⟨(0 : Int), (0 : Int), (⟨#[]⟩ : ByteArray), false⟩
def k40 : Kd S40 := Kd.iso (Kd.pair (Kd.int .i64) (Kd.pair (Kd.int .i64) (Kd.pair Kd.string Kd.bool))) (fun x : S40 => (x.f0, x.f1, x.f2, x.f3))
theorem k40_open {w : World} {x : S40} {cs : List Value} (h : k40.K w x cs) : cs = [.int .i64 x.f0, .int .i64 x.f1, .string x.f2, .bool x.f3] := by
  obtain ⟨_, _, rfl, rfl, ⟨_, _, rfl, rfl, ⟨_, _, rfl, rfl, rfl⟩⟩⟩ := h
  exact rfl
theorem k40_openM {w : World} {base : Nat} {ok : Nat → Prop} {x : S40} {cs : List Value} (h : k40.M w base ok x cs) : cs = [.int .i64 x.f0, .int .i64 x.f1, .string x.f2, .bool x.f3] := by
  obtain ⟨_, _, rfl, rfl, ⟨_, _, rfl, rfl, ⟨_, _, rfl, rfl, rfl⟩⟩⟩ := h
  exact rfl
theorem k40_mk (w : World) (x : S40)  : k40.K w x [.int .i64 x.f0, .int .i64 x.f1, .string x.f2, .bool x.f3] := ⟨[.int .i64 x.f0], [.int .i64 x.f1, .string x.f2, .bool x.f3], rfl, rfl, ⟨[.int .i64 x.f1], [.string x.f2, .bool x.f3], rfl, rfl, ⟨[.string x.f2], [.bool x.f3], rfl, rfl, rfl⟩⟩⟩
theorem k40_mkM (w : World) (base : Nat) (ok : Nat → Prop) (x : S40)  : k40.M w base ok x [.int .i64 x.f0, .int .i64 x.f1, .string x.f2, .bool x.f3] := ⟨[.int .i64 x.f0], [.int .i64 x.f1, .string x.f2, .bool x.f3], rfl, rfl, ⟨[.int .i64 x.f1], [.string x.f2, .bool x.f3], rfl, rfl, ⟨[.string x.f2], [.bool x.f3], rfl, rfl, rfl⟩⟩⟩
def rd_T40 (xs : List S40) (i : Int) : S40 := xs.getD i.toNat z40
theorem at_T40 {w : World} {A : Option Addr} {n : Nat} {xs : List S40} (h : Kd.C k40 w A n xs) (i : Int) (h0 : 0 ≤ i) (h1 : i < n) : ∃ ad , A = some ad ∧ w.cell? (ad.add (i.toNat * 4)) = some (.int .i64 (rd_T40 xs i).f0) ∧ w.cell? ⟨(ad.add (i.toNat * 4)).block, (ad.add (i.toNat * 4)).off + 1, none⟩ = some (.int .i64 (rd_T40 xs i).f1) ∧ w.cell? ⟨(ad.add (i.toNat * 4)).block, (ad.add (i.toNat * 4)).off + 2, none⟩ = some (.string (rd_T40 xs i).f2) ∧ w.cell? ⟨(ad.add (i.toNat * 4)).block, (ad.add (i.toNat * 4)).off + 3, none⟩ = some (.bool (rd_T40 xs i).f3) := by
  obtain ⟨ad, c, e, _, hK, hc0⟩ := Kd.C_get h z40 i h0 h1
  have hc : ∀ j u, c[j]? = some u → w.cell? (ad.add (i.toNat * 4 + j)) = some u := hc0
  obtain rfl := k40_open hK
  exact ⟨ad, e, hc 0 _ rfl, by rw [← add_field _ _ 1 (by omega)]; exact hc 1 _ rfl, by rw [← add_field _ _ 2 (by omega)]; exact hc 2 _ rfl, by rw [← add_field _ _ 3 (by omega)]; exact hc 3 _ rfl⟩

def rd_L6 (xs : List (List Int)) (i : Int) : (List Int) := xs.getD i.toNat ([] : List Int)
theorem at_L6 {w : World} {A : Option Addr} {n : Nat} {xs : List (List Int)} (h : Kd.C (Kd.slice 5 (Kd.int .u8)) w A n xs) (i : Int) (h0 : 0 ≤ i) (h1 : i < n) : ∃ ad A0 c0, A = some ad ∧ w.cell? (ad.add i.toNat) = some (.slice A0 (rd_L6 xs i).length c0) ∧ (rd_L6 xs i).length ≤ c0 ∧ (Kd.int .u8).C w A0 (rd_L6 xs i).length (rd_L6 xs i) := by
  obtain ⟨ad, c, e, _, hK, hc0⟩ := Kd.C_get h ([] : List Int) i h0 h1
  have hc : ∀ j u, c[j]? = some u → w.cell? (ad.add (i.toNat * 1 + j)) = some u := hc0
  obtain ⟨A0, c0, rfl, l0, g0⟩ := hK
  exact ⟨ad, A0, c0, e, by have hq := hc 0 _ rfl; rwa [Nat.mul_one, Nat.add_zero] at hq, l0, g0⟩

def rd_L8 (xs : List (List S40)) (i : Int) : (List S40) := xs.getD i.toNat ([] : List S40)
theorem at_L8 {w : World} {A : Option Addr} {n : Nat} {xs : List (List S40)} (h : Kd.C (Kd.slice 40 k40) w A n xs) (i : Int) (h0 : 0 ≤ i) (h1 : i < n) : ∃ ad A0 c0, A = some ad ∧ w.cell? (ad.add i.toNat) = some (.slice A0 (rd_L8 xs i).length c0) ∧ (rd_L8 xs i).length ≤ c0 ∧ k40.C w A0 (rd_L8 xs i).length (rd_L8 xs i) := by
  obtain ⟨ad, c, e, _, hK, hc0⟩ := Kd.C_get h ([] : List S40) i h0 h1
  have hc : ∀ j u, c[j]? = some u → w.cell? (ad.add (i.toNat * 1 + j)) = some u := hc0
  obtain ⟨A0, c0, rfl, l0, g0⟩ := hK
  exact ⟨ad, A0, c0, e, by have hq := hc 0 _ rfl; rwa [Nat.mul_one, Nat.add_zero] at hq, l0, g0⟩

end Go.Proofs.Ythcoiomnlcagcaa.PRQ

namespace Go.Proofs.Ythcoiomnlcagcaa.PRQ
open Go.RowKit Go.Proofs.YthcoiomnlcagcaaW.PrintWords Go.Proofs.YthcoiomnlcagcaaW.PrintLast Go.Proofs.YthcoiomnlcagcaaW.PrintMore
attribute [local go_sem] max2_int min2_int max_two min_two max_three min_three max_four min_four   -- for this text's walks alone
set_option linter.unusedVariables false
set_option linter.unusedSimpArgs false

/-! ### stileref01_Num: function 23 -/
def stileref01_Num.f (a0 : Int) : Option (Int × Int × ByteArray × Bool) := some (1, a0, (⟨#[]⟩ : ByteArray), false)
set_option maxHeartbeats 8000000 in
set_option maxRecDepth 100000 in
theorem stileref01_Num.calls (a0 : Int) (r1 : Int) (r2 : Int) (r3 : ByteArray) (r4 : Bool) (w : World) (h : stileref01_Num.f a0 = some (r1, r2, r3, r4)) :
    Calls Try.prog 23 #[.int .i64 a0] w fun e w' => e = .returned (.agg #[.int .i64 r1, .int .i64 r2, .string r3, .bool r4]) ∧ Below w.heap.size w w' := by
  have hu40 := Try.underlying40
  have HB := Aside0.mk (Below.refl w.heap.size w)
  have H : (some (1, a0, (⟨#[]⟩ : ByteArray), false)) = some (r1, r2, r3, r4) := h
  clear h
  simp only [Option.some.injEq, Prod.mk.injEq] at H
  obtain ⟨rfl, rfl, rfl, rfl⟩ := H
  go_enter Try.func23, Try.ntmps23
  go_wp2_with (first | ((with_reducible refine gate_dst (N := 2) rfl ?_); refine box_event ?hg (N := 2) ?hd (cs := #[.int .i64 0, .int .i64 0, .string (⟨#[]⟩ : ByteArray), .bool false]) (t := 40) ?hr ?_; (case hd => rfl); (case hg => rfl); (case hr => first | (go_simp; done) | (go_simp; rfl)); intro gb101 hg w2 hbox hb; have n0_ := Aside0.mk (below_step (by repeat (first | (with_reducible first | exact HB.out | apply below_alloc | apply pw_below_drewN | apply below_drew1) | exact HB.out)) hb); have n1_ := Aside0.mk (hbox); have n2_ := Aside0.mk ((by rw [hg]; exact (below_size (by repeat (first | (with_reducible first | exact HB.out | apply below_alloc | apply pw_below_drewN | apply below_drew1) | exact HB.out))) : w.heap.size ≤ gb101)); have n3_ := Aside0.mk ((by rw [hg]; exact (below_size (by repeat (first | (with_reducible first | exact HB.out | apply below_alloc | apply pw_below_drewN | apply below_drew1) | exact HB.out))) : w.heap.size ≤ gb101)); clear HB; have HB := n0_; have BK101 := n1_; have GW101 := n2_; have GE101 := n3_; clear n0_ n1_ n2_ n3_; clear hb hbox hg; have hcz3_0 : w2.cell? ⟨gb101, 0, none⟩ = some (.int .i64 0) := (blk_cell BK101.out 0).trans rfl; have hcz3_1 : w2.cell? ⟨gb101, 1, none⟩ = some (.int .i64 0) := (blk_cell BK101.out 1).trans rfl; have hcz3_2 : w2.cell? ⟨gb101, 2, none⟩ = some (.string (⟨#[]⟩ : ByteArray)) := (blk_cell BK101.out 2).trans rfl; have hcz3_3 : w2.cell? ⟨gb101, 3, none⟩ = some (.bool false) := (blk_cell BK101.out 3).trans rfl; have hfz3_0 := blk_frozen BK101.out 0; have hfz3_1 := blk_frozen BK101.out 1; have hfz3_2 := blk_frozen BK101.out 2; have hfz3_3 := blk_frozen BK101.out 3))
  refine bodyPost_ret (results_cell_row rfl _ _ gb101 40 #[.int .i64 1, .int .i64 a0, .string (⟨#[]⟩ : ByteArray), .bool false] (0, 0) _ rfl (by (with_reducible repeat (first | refine blk_drewN ?_ _ | refine blk_drew ?_ | refine blk_alloc ?_ _)); refine blk_put (cs := #[.int .i64 1, .int .i64 a0, .string (⟨#[]⟩ : ByteArray), .bool false]) ?_ 3 _ rfl; (with_reducible repeat (first | refine blk_drewN ?_ _ | refine blk_drew ?_ | refine blk_alloc ?_ _)); refine blk_put (cs := #[.int .i64 1, .int .i64 a0, .string (⟨#[]⟩ : ByteArray), .bool false]) ?_ 2 _ rfl; (with_reducible repeat (first | refine blk_drewN ?_ _ | refine blk_drew ?_ | refine blk_alloc ?_ _)); refine blk_put (cs := #[.int .i64 1, .int .i64 0, .string (⟨#[]⟩ : ByteArray), .bool false]) ?_ 1 _ rfl; (with_reducible repeat (first | refine blk_drewN ?_ _ | refine blk_drew ?_ | refine blk_alloc ?_ _)); refine blk_put (cs := #[.int .i64 0, .int .i64 0, .string (⟨#[]⟩ : ByteArray), .bool false]) ?_ 0 _ rfl; (with_reducible repeat (first | refine blk_drewN ?_ _ | refine blk_drew ?_ | refine blk_alloc ?_ _)); exact BK101.out) Try.underlying40 rfl (by kernel_rfl)) rfl ?_
  exact ⟨by first | rfl | (simp [errW_none, errW_some] <;> rfl) | (simp [*, errW_none, errW_some] <;> rfl), by repeat (first | (with_reducible first | exact HB.out | apply below_alloc | apply pw_below_drewN | apply below_drew1 | refine below_set ?_ GE101.out) | exact HB.out)⟩

/-! ### stileref01_Text: function 24 -/
def stileref01_Text.f (a0 : ByteArray) : Option (Int × Int × ByteArray × Bool) := some (2, 0, a0, false)
set_option maxHeartbeats 8000000 in
set_option maxRecDepth 100000 in
theorem stileref01_Text.calls (a0 : ByteArray) (r1 : Int) (r2 : Int) (r3 : ByteArray) (r4 : Bool) (w : World) (h : stileref01_Text.f a0 = some (r1, r2, r3, r4)) :
    Calls Try.prog 24 #[.string a0] w fun e w' => e = .returned (.agg #[.int .i64 r1, .int .i64 r2, .string r3, .bool r4]) ∧ Below w.heap.size w w' := by
  have hu40 := Try.underlying40
  have HB := Aside0.mk (Below.refl w.heap.size w)
  have H : (some (2, 0, a0, false)) = some (r1, r2, r3, r4) := h
  clear h
  simp only [Option.some.injEq, Prod.mk.injEq] at H
  obtain ⟨rfl, rfl, rfl, rfl⟩ := H
  go_enter Try.func24, Try.ntmps24
  go_wp2_with (first | ((with_reducible refine gate_dst (N := 2) rfl ?_); refine box_event ?hg (N := 2) ?hd (cs := #[.int .i64 0, .int .i64 0, .string (⟨#[]⟩ : ByteArray), .bool false]) (t := 40) ?hr ?_; (case hd => rfl); (case hg => rfl); (case hr => first | (go_simp; done) | (go_simp; rfl)); intro gb102 hg w2 hbox hb; have n0_ := Aside0.mk (below_step (by repeat (first | (with_reducible first | exact HB.out | apply below_alloc | apply pw_below_drewN | apply below_drew1) | exact HB.out)) hb); have n1_ := Aside0.mk (hbox); have n2_ := Aside0.mk ((by rw [hg]; exact (below_size (by repeat (first | (with_reducible first | exact HB.out | apply below_alloc | apply pw_below_drewN | apply below_drew1) | exact HB.out))) : w.heap.size ≤ gb102)); have n3_ := Aside0.mk ((by rw [hg]; exact (below_size (by repeat (first | (with_reducible first | exact HB.out | apply below_alloc | apply pw_below_drewN | apply below_drew1) | exact HB.out))) : w.heap.size ≤ gb102)); clear HB; have HB := n0_; have BK102 := n1_; have GW102 := n2_; have GE102 := n3_; clear n0_ n1_ n2_ n3_; clear hb hbox hg; have hcz3_0 : w2.cell? ⟨gb102, 0, none⟩ = some (.int .i64 0) := (blk_cell BK102.out 0).trans rfl; have hcz3_1 : w2.cell? ⟨gb102, 1, none⟩ = some (.int .i64 0) := (blk_cell BK102.out 1).trans rfl; have hcz3_2 : w2.cell? ⟨gb102, 2, none⟩ = some (.string (⟨#[]⟩ : ByteArray)) := (blk_cell BK102.out 2).trans rfl; have hcz3_3 : w2.cell? ⟨gb102, 3, none⟩ = some (.bool false) := (blk_cell BK102.out 3).trans rfl; have hfz3_0 := blk_frozen BK102.out 0; have hfz3_1 := blk_frozen BK102.out 1; have hfz3_2 := blk_frozen BK102.out 2; have hfz3_3 := blk_frozen BK102.out 3))
  refine bodyPost_ret (results_cell_row rfl _ _ gb102 40 #[.int .i64 2, .int .i64 0, .string a0, .bool false] (0, 0) _ rfl (by (with_reducible repeat (first | refine blk_drewN ?_ _ | refine blk_drew ?_ | refine blk_alloc ?_ _)); refine blk_put (cs := #[.int .i64 2, .int .i64 0, .string a0, .bool false]) ?_ 3 _ rfl; (with_reducible repeat (first | refine blk_drewN ?_ _ | refine blk_drew ?_ | refine blk_alloc ?_ _)); refine blk_put (cs := #[.int .i64 2, .int .i64 0, .string (⟨#[]⟩ : ByteArray), .bool false]) ?_ 2 _ rfl; (with_reducible repeat (first | refine blk_drewN ?_ _ | refine blk_drew ?_ | refine blk_alloc ?_ _)); refine blk_put (cs := #[.int .i64 2, .int .i64 0, .string (⟨#[]⟩ : ByteArray), .bool false]) ?_ 1 _ rfl; (with_reducible repeat (first | refine blk_drewN ?_ _ | refine blk_drew ?_ | refine blk_alloc ?_ _)); refine blk_put (cs := #[.int .i64 0, .int .i64 0, .string (⟨#[]⟩ : ByteArray), .bool false]) ?_ 0 _ rfl; (with_reducible repeat (first | refine blk_drewN ?_ _ | refine blk_drew ?_ | refine blk_alloc ?_ _)); exact BK102.out) Try.underlying40 rfl (by kernel_rfl)) rfl ?_
  exact ⟨by first | rfl | (simp [errW_none, errW_some] <;> rfl) | (simp [*, errW_none, errW_some] <;> rfl), by repeat (first | (with_reducible first | exact HB.out | apply below_alloc | apply pw_below_drewN | apply below_drew1 | refine below_set ?_ GE102.out) | exact HB.out)⟩

/-! ### stilelaw01_pick: function 25 -/
def stilelaw01_pick.f (a0 : Int) (a1 : Int) : Option (Int) := if a0 < 0 then (if a1 = 0 then (none) else (some (Int.tmod (wrap64 (-(wrap64 (a0 + 1)))) a1))) else (if a1 = 0 then (none) else (some (Int.tmod a0 a1)))
set_option maxHeartbeats 8000000 in
set_option maxRecDepth 100000 in
theorem stilelaw01_pick.calls (a0 : Int) (a1 : Int) (r : Int) (w : World) (h : stilelaw01_pick.f a0 a1 = some r) :
    Calls Try.prog 25 #[.int .i64 a0, .int .i64 a1] w fun e w' => e = .returned (.int .i64 r) ∧ Below w.heap.size w w' := by
  have HB := Aside0.mk (Below.refl w.heap.size w)
  have H : (if a0 < 0 then (if a1 = 0 then (none) else (some (Int.tmod (wrap64 (-(wrap64 (a0 + 1)))) a1))) else (if a1 = 0 then (none) else (some (Int.tmod a0 a1)))) = some r := h
  clear h
  by_cases c3 : a0 < 0
  · rw [if_pos c3] at H
    have c3b0 : decide (a0 < 0) = true := decide_eq_true c3
    clear c3
    by_cases c4 : a1 = 0
    · rw [if_pos c4] at H
      exact absurd H (by simp)
    · rw [if_neg c4] at H
      have c4b0 : (a1 == 0) = false := beq_eq_false_iff_ne.mpr c4
      have c4b1 : (a1 != 0) = true := bne_iff_ne.mpr c4
      obtain rfl := Option.some.inj H
      go_enter Try.func25, Try.ntmps25
      go_wp2
      go_ret
      exact ⟨by first | rfl | (simp [errW_none, errW_some] <;> rfl) | (simp [*, errW_none, errW_some] <;> rfl), by repeat (first | (with_reducible first | exact HB.out | apply below_alloc | apply pw_below_drewN | apply below_drew1) | exact HB.out)⟩
  · rw [if_neg c3] at H
    have c3b0 : decide (a0 < 0) = false := decide_eq_false c3
    clear c3
    by_cases c5 : a1 = 0
    · rw [if_pos c5] at H
      exact absurd H (by simp)
    · rw [if_neg c5] at H
      have c5b0 : (a1 == 0) = false := beq_eq_false_iff_ne.mpr c5
      have c5b1 : (a1 != 0) = true := bne_iff_ne.mpr c5
      obtain rfl := Option.some.inj H
      go_enter Try.func25, Try.ntmps25
      go_wp2
      go_ret
      exact ⟨by first | rfl | (simp [errW_none, errW_some] <;> rfl) | (simp [*, errW_none, errW_some] <;> rfl), by repeat (first | (with_reducible first | exact HB.out | apply below_alloc | apply pw_below_drewN | apply below_drew1) | exact HB.out)⟩

end Go.Proofs.Ythcoiomnlcagcaa.PRQ

namespace Go.Proofs.Ythcoiomnlcagcaa.PRQ
open Go.RowKit Go.Proofs.YthcoiomnlcagcaaW.PrintWords Go.Proofs.YthcoiomnlcagcaaW.PrintLast Go.Proofs.YthcoiomnlcagcaaW.PrintMore
attribute [local go_sem] max2_int min2_int max_two min_two max_three min_three max_four min_four   -- for this text's walks alone
set_option linter.unusedVariables false
set_option linter.unusedSimpArgs false

/-! ### value_Num: function 26 -/
def value_Num.f (a0 : Int) : Option (Int × Int × ByteArray × Bool) := some (1, a0, (⟨#[]⟩ : ByteArray), false)
set_option maxHeartbeats 8000000 in
set_option maxRecDepth 100000 in
theorem value_Num.calls (a0 : Int) (r1 : Int) (r2 : Int) (r3 : ByteArray) (r4 : Bool) (w : World) (h : value_Num.f a0 = some (r1, r2, r3, r4)) :
    Calls Try.prog 26 #[.int .i64 a0] w fun e w' => e = .returned (.agg #[.int .i64 r1, .int .i64 r2, .string r3, .bool r4]) ∧ Below w.heap.size w w' := by
  have hu40 := Try.underlying40
  have HB := Aside0.mk (Below.refl w.heap.size w)
  have H : (some (1, a0, (⟨#[]⟩ : ByteArray), false)) = some (r1, r2, r3, r4) := h
  clear h
  simp only [Option.some.injEq, Prod.mk.injEq] at H
  obtain ⟨rfl, rfl, rfl, rfl⟩ := H
  go_enter Try.func26, Try.ntmps26
  go_wp2_with (first | ((with_reducible refine gate_dst (N := 2) rfl ?_); refine box_event ?hg (N := 2) ?hd (cs := #[.int .i64 0, .int .i64 0, .string (⟨#[]⟩ : ByteArray), .bool false]) (t := 40) ?hr ?_; (case hd => rfl); (case hg => rfl); (case hr => first | (go_simp; done) | (go_simp; rfl)); intro gb122 hg w2 hbox hb; have n0_ := Aside0.mk (below_step (by repeat (first | (with_reducible first | exact HB.out | apply below_alloc | apply pw_below_drewN | apply below_drew1) | exact HB.out)) hb); have n1_ := Aside0.mk (hbox); have n2_ := Aside0.mk ((by rw [hg]; exact (below_size (by repeat (first | (with_reducible first | exact HB.out | apply below_alloc | apply pw_below_drewN | apply below_drew1) | exact HB.out))) : w.heap.size ≤ gb122)); have n3_ := Aside0.mk ((by rw [hg]; exact (below_size (by repeat (first | (with_reducible first | exact HB.out | apply below_alloc | apply pw_below_drewN | apply below_drew1) | exact HB.out))) : w.heap.size ≤ gb122)); clear HB; have HB := n0_; have BK122 := n1_; have GW122 := n2_; have GE122 := n3_; clear n0_ n1_ n2_ n3_; clear hb hbox hg; have hcz3_0 : w2.cell? ⟨gb122, 0, none⟩ = some (.int .i64 0) := (blk_cell BK122.out 0).trans rfl; have hcz3_1 : w2.cell? ⟨gb122, 1, none⟩ = some (.int .i64 0) := (blk_cell BK122.out 1).trans rfl; have hcz3_2 : w2.cell? ⟨gb122, 2, none⟩ = some (.string (⟨#[]⟩ : ByteArray)) := (blk_cell BK122.out 2).trans rfl; have hcz3_3 : w2.cell? ⟨gb122, 3, none⟩ = some (.bool false) := (blk_cell BK122.out 3).trans rfl; have hfz3_0 := blk_frozen BK122.out 0; have hfz3_1 := blk_frozen BK122.out 1; have hfz3_2 := blk_frozen BK122.out 2; have hfz3_3 := blk_frozen BK122.out 3))
  refine bodyPost_ret (results_cell_row rfl _ _ gb122 40 #[.int .i64 1, .int .i64 a0, .string (⟨#[]⟩ : ByteArray), .bool false] (0, 0) _ rfl (by (with_reducible repeat (first | refine blk_drewN ?_ _ | refine blk_drew ?_ | refine blk_alloc ?_ _)); refine blk_put (cs := #[.int .i64 1, .int .i64 a0, .string (⟨#[]⟩ : ByteArray), .bool false]) ?_ 3 _ rfl; (with_reducible repeat (first | refine blk_drewN ?_ _ | refine blk_drew ?_ | refine blk_alloc ?_ _)); refine blk_put (cs := #[.int .i64 1, .int .i64 a0, .string (⟨#[]⟩ : ByteArray), .bool false]) ?_ 2 _ rfl; (with_reducible repeat (first | refine blk_drewN ?_ _ | refine blk_drew ?_ | refine blk_alloc ?_ _)); refine blk_put (cs := #[.int .i64 1, .int .i64 0, .string (⟨#[]⟩ : ByteArray), .bool false]) ?_ 1 _ rfl; (with_reducible repeat (first | refine blk_drewN ?_ _ | refine blk_drew ?_ | refine blk_alloc ?_ _)); refine blk_put (cs := #[.int .i64 0, .int .i64 0, .string (⟨#[]⟩ : ByteArray), .bool false]) ?_ 0 _ rfl; (with_reducible repeat (first | refine blk_drewN ?_ _ | refine blk_drew ?_ | refine blk_alloc ?_ _)); exact BK122.out) Try.underlying40 rfl (by kernel_rfl)) rfl ?_
  exact ⟨by first | rfl | (simp [errW_none, errW_some] <;> rfl) | (simp [*, errW_none, errW_some] <;> rfl), by repeat (first | (with_reducible first | exact HB.out | apply below_alloc | apply pw_below_drewN | apply below_drew1 | refine below_set ?_ GE122.out) | exact HB.out)⟩

/-! ### value_Text: function 27 -/
def value_Text.f (a0 : ByteArray) : Option (Int × Int × ByteArray × Bool) := some (2, 0, a0, false)
set_option maxHeartbeats 8000000 in
set_option maxRecDepth 100000 in
theorem value_Text.calls (a0 : ByteArray) (r1 : Int) (r2 : Int) (r3 : ByteArray) (r4 : Bool) (w : World) (h : value_Text.f a0 = some (r1, r2, r3, r4)) :
    Calls Try.prog 27 #[.string a0] w fun e w' => e = .returned (.agg #[.int .i64 r1, .int .i64 r2, .string r3, .bool r4]) ∧ Below w.heap.size w w' := by
  have hu40 := Try.underlying40
  have HB := Aside0.mk (Below.refl w.heap.size w)
  have H : (some (2, 0, a0, false)) = some (r1, r2, r3, r4) := h
  clear h
  simp only [Option.some.injEq, Prod.mk.injEq] at H
  obtain ⟨rfl, rfl, rfl, rfl⟩ := H
  go_enter Try.func27, Try.ntmps27
  go_wp2_with (first | ((with_reducible refine gate_dst (N := 2) rfl ?_); refine box_event ?hg (N := 2) ?hd (cs := #[.int .i64 0, .int .i64 0, .string (⟨#[]⟩ : ByteArray), .bool false]) (t := 40) ?hr ?_; (case hd => rfl); (case hg => rfl); (case hr => first | (go_simp; done) | (go_simp; rfl)); intro gb123 hg w2 hbox hb; have n0_ := Aside0.mk (below_step (by repeat (first | (with_reducible first | exact HB.out | apply below_alloc | apply pw_below_drewN | apply below_drew1) | exact HB.out)) hb); have n1_ := Aside0.mk (hbox); have n2_ := Aside0.mk ((by rw [hg]; exact (below_size (by repeat (first | (with_reducible first | exact HB.out | apply below_alloc | apply pw_below_drewN | apply below_drew1) | exact HB.out))) : w.heap.size ≤ gb123)); have n3_ := Aside0.mk ((by rw [hg]; exact (below_size (by repeat (first | (with_reducible first | exact HB.out | apply below_alloc | apply pw_below_drewN | apply below_drew1) | exact HB.out))) : w.heap.size ≤ gb123)); clear HB; have HB := n0_; have BK123 := n1_; have GW123 := n2_; have GE123 := n3_; clear n0_ n1_ n2_ n3_; clear hb hbox hg; have hcz3_0 : w2.cell? ⟨gb123, 0, none⟩ = some (.int .i64 0) := (blk_cell BK123.out 0).trans rfl; have hcz3_1 : w2.cell? ⟨gb123, 1, none⟩ = some (.int .i64 0) := (blk_cell BK123.out 1).trans rfl; have hcz3_2 : w2.cell? ⟨gb123, 2, none⟩ = some (.string (⟨#[]⟩ : ByteArray)) := (blk_cell BK123.out 2).trans rfl; have hcz3_3 : w2.cell? ⟨gb123, 3, none⟩ = some (.bool false) := (blk_cell BK123.out 3).trans rfl; have hfz3_0 := blk_frozen BK123.out 0; have hfz3_1 := blk_frozen BK123.out 1; have hfz3_2 := blk_frozen BK123.out 2; have hfz3_3 := blk_frozen BK123.out 3))
  refine bodyPost_ret (results_cell_row rfl _ _ gb123 40 #[.int .i64 2, .int .i64 0, .string a0, .bool false] (0, 0) _ rfl (by (with_reducible repeat (first | refine blk_drewN ?_ _ | refine blk_drew ?_ | refine blk_alloc ?_ _)); refine blk_put (cs := #[.int .i64 2, .int .i64 0, .string a0, .bool false]) ?_ 3 _ rfl; (with_reducible repeat (first | refine blk_drewN ?_ _ | refine blk_drew ?_ | refine blk_alloc ?_ _)); refine blk_put (cs := #[.int .i64 2, .int .i64 0, .string (⟨#[]⟩ : ByteArray), .bool false]) ?_ 2 _ rfl; (with_reducible repeat (first | refine blk_drewN ?_ _ | refine blk_drew ?_ | refine blk_alloc ?_ _)); refine blk_put (cs := #[.int .i64 2, .int .i64 0, .string (⟨#[]⟩ : ByteArray), .bool false]) ?_ 1 _ rfl; (with_reducible repeat (first | refine blk_drewN ?_ _ | refine blk_drew ?_ | refine blk_alloc ?_ _)); refine blk_put (cs := #[.int .i64 0, .int .i64 0, .string (⟨#[]⟩ : ByteArray), .bool false]) ?_ 0 _ rfl; (with_reducible repeat (first | refine blk_drewN ?_ _ | refine blk_drew ?_ | refine blk_alloc ?_ _)); exact BK123.out) Try.underlying40 rfl (by kernel_rfl)) rfl ?_
  exact ⟨by first | rfl | (simp [errW_none, errW_some] <;> rfl) | (simp [*, errW_none, errW_some] <;> rfl), by repeat (first | (with_reducible first | exact HB.out | apply below_alloc | apply pw_below_drewN | apply below_drew1 | refine below_set ?_ GE123.out) | exact HB.out)⟩

/-! ### value_Right: function 17, by hand -/
def value_Right.f (a0_0 : Int) (a0_1 : Int) (a0_2 : ByteArray) (a0_3 : Bool) : Option (Bool) := some (Go.Proofs.Ythcoiomnlcagcaa.Rw.rightF a0_0 a0_1 a0_2 a0_3)
theorem value_Right.calls (a0_0 : Int) (a0_1 : Int) (a0_2 : ByteArray) (a0_3 : Bool) (r : Bool) (w : World) (h : value_Right.f a0_0 a0_1 a0_2 a0_3 = some r) :
    Calls Try.prog 17 #[.agg #[.int .i64 a0_0, .int .i64 a0_1, .string a0_2, .bool a0_3]] w fun e w' => e = .returned (.bool r) ∧ Below w.heap.size w w' := by
  obtain rfl := Option.some.inj h
  exact Go.Proofs.Ythcoiomnlcagcaa.Rw.right_any a0_0 a0_1 a0_2 a0_3 w

-- by hand, and not called by what is printed: octets_Put

/-! ### octets_Append: function 18, by hand -/
def octets_Append.f (l0 : List Int) (a1 : Int) (a2 : Int) : Option (List Int) := if (1 ≤ a2 ∧ a2 ≤ 8) ∧ (0 ≤ a1 ∧ a1 < 18446744073709551616) ∧ l0.length ≤ 140737488351232 then some (l0 ++ Go.Proofs.Ythcoiomnlcagcaa.Rw.leL a1 a2.toNat) else none
theorem octets_Append.calls (P0_ : Nat → Prop) (u9000_ : Value) (l0 : List Int) (a1 : Int) (a2 : Int) (r : List Int) (w0 w : World) (hB : Below w0.heap.size w0 w) (ho0 : Kd.R (Kd.int .u8) 5 w w0.heap.size P0_ u9000_ l0) (h : octets_Append.f l0 a1 a2 = some r) :
    Calls Try.prog 18 #[u9000_, .int .u64 a1, .int .i64 a2] w fun e w' => ∃ v0_ : Value, e = .returned (v0_) ∧ Kd.R (Kd.int .u8) 5 w' w0.heap.size (fun k_ => (P0_ k_ ∨ w.heap.size ≤ k_)) v0_ r ∧ Below w0.heap.size w0 w' ∧ Kept w w' (fun k_ => P0_ k_) := by
  unfold octets_Append.f at h
  split at h
  · rename_i hc
    obtain ⟨⟨h1, h2⟩, ⟨h3, h4⟩, h5⟩ := hc
    obtain rfl := Option.some.inj h
    obtain ⟨m, rfl⟩ : ∃ m : Nat, a2 = m := ⟨a2.toNat, by omega⟩
    exact Go.Proofs.Ythcoiomnlcagcaa.Rw.append_le P0_ u9000_ l0 a1 m w0 w hB ho0 (by omega) (by omega) h3 h4 h5
  · cases h

end Go.Proofs.Ythcoiomnlcagcaa.PRQ

namespace Go.Proofs.Ythcoiomnlcagcaa.PRQ
open Go.RowKit Go.Proofs.YthcoiomnlcagcaaW.PrintWords Go.Proofs.YthcoiomnlcagcaaW.PrintLast Go.Proofs.YthcoiomnlcagcaaW.PrintMore
attribute [local go_sem] max2_int min2_int max_two min_two max_three min_three max_four min_four   -- for this text's walks alone
set_option linter.unusedVariables false
set_option linter.unusedSimpArgs false

/-! ### rowcode_Encode: function 9 -/
mutual
def rowcode_Encode.l0 : Nat → List (S40) → Bool → Bool → List (S40) → Int → Int → Option (List Int × Int)
  | 0, _, _, _, _, _, _ => none
  | k + 1, x0, x4, x5, x14, x15, x16 => if x16 < x15 then (if 0 ≤ x16 then (if x16 < (x14.length : Int) then (if x4 = true then (rowcode_Encode.j1 k x0 true x5 x14 x15 x16 ((rd_T40 x14 x16).f0) ((rd_T40 x14 x16).f1) ((rd_T40 x14 x16).f2) ((rd_T40 x14 x16).f3)) else (if ((rd_T40 x14 x16).f0) = 2 then (rowcode_Encode.j1 k x0 (decide ((((rd_T40 x14 x16).f2).size : Int) > 400)) x5 x14 x15 x16 ((rd_T40 x14 x16).f0) ((rd_T40 x14 x16).f1) ((rd_T40 x14 x16).f2) ((rd_T40 x14 x16).f3)) else (rowcode_Encode.j1 k x0 false x5 x14 x15 x16 ((rd_T40 x14 x16).f0) ((rd_T40 x14 x16).f1) ((rd_T40 x14 x16).f2) ((rd_T40 x14 x16).f3)))) else (none)) else (none)) else (if x4 = true then (some (([] : List Int), 42)) else (if x5 = true then (rowcode_Encode.l1 k (([((x0.length : Int)) % 256] : List Int)) x0 (x0.length : Int) 0) else (some (([] : List Int), 41))))
def rowcode_Encode.j1 : Nat → List (S40) → Bool → Bool → List (S40) → Int → Int → Int → Int → ByteArray → Bool → Option (List Int × Int)
  | 0, _, _, _, _, _, _, _, _, _, _ => none
  | k + 1, x0, x4, x5, x14, x15, x16, x126000, x126001, x126002, x126003 => if x5 = true then ((value_Right.f x126000 x126001 x126002 x126003).bind fun t126 => (rowcode_Encode.l0 k x0 x4 t126 x14 x15 (wrap64 (x16 + 1)))) else (rowcode_Encode.l0 k x0 x4 false x14 x15 (wrap64 (x16 + 1)))
def rowcode_Encode.l1 : Nat → List Int → List (S40) → Int → Int → Option (List Int × Int)
  | 0, _, _, _, _ => none
  | k + 1, x8, x47, x48, x49 => if x49 < x48 then (if 0 ≤ x49 then (if x49 < (x47.length : Int) then (if ((rd_T40 x47 x49).f0) = 0 then (if x8.length < 140737488355328 then (rowcode_Encode.l1 k (x8 ++ [0]) x47 x48 (wrap64 (x49 + 1))) else (none)) else (if ((rd_T40 x47 x49).f0) = 1 then (if x8.length < 140737488355328 then ((octets_Append.f (x8 ++ [1]) (IntKind.u64.wrap ((rd_T40 x47 x49).f1)) 8).bind fun t138 => (rowcode_Encode.l1 k t138 x47 x48 (wrap64 (x49 + 1)))) else (none)) else (if ((rd_T40 x47 x49).f0) = 2 then (if x8.length < 140737488355328 then ((octets_Append.f (x8 ++ [2]) (IntKind.u64.wrap ((((rd_T40 x47 x49).f2).size : Int))) 2).bind fun t144 => (if t144.length + ((rd_T40 x47 x49).f2).size < 140737488355328 then (rowcode_Encode.l1 k (t144 ++ bytesOf ((rd_T40 x47 x49).f2)) x47 x48 (wrap64 (x49 + 1))) else (none))) else (none)) else (if ((rd_T40 x47 x49).f0) = 3 then (if x8.length < 140737488355328 then ((some (x8 ++ [3] : List Int)).bind fun y150 => (if (rd_T40 x47 x49).f3 = true then (if 0 ≤ (wrap64 ((y150.length : Int) - 1)) then (if (wrap64 ((y150.length : Int) - 1)) < (y150.length : Int) then (rowcode_Encode.l1 k (y150.set ((wrap64 ((y150.length : Int) - 1)) : Int).toNat 4) x47 x48 (wrap64 (x49 + 1))) else (none)) else (none)) else (rowcode_Encode.l1 k y150 x47 x48 (wrap64 (x49 + 1))))) else (none)) else (rowcode_Encode.l1 k x8 x47 x48 (wrap64 (x49 + 1))))))) else (none)) else (none)) else (some (x8, 0))
end
def rowcode_Encode.f (k : Nat) (l0 : List (S40)) : Option (List Int × Int) := rowcode_Encode.l0 k l0 (decide ((l0.length : Int) > 12)) true l0 (l0.length : Int) 0
theorem rowcode_Encode.mono_l : ∀ k, (∀ y0 y1 y2 y3 y4 y5, LeO (rowcode_Encode.l0 k y0 y1 y2 y3 y4 y5) (rowcode_Encode.l0 (k + 1) y0 y1 y2 y3 y4 y5)) ∧ (∀ y0 y1 y2 y3 y4 y5 y6 y7 y8 y9, LeO (rowcode_Encode.j1 k y0 y1 y2 y3 y4 y5 y6 y7 y8 y9) (rowcode_Encode.j1 (k + 1) y0 y1 y2 y3 y4 y5 y6 y7 y8 y9)) ∧ (∀ y0 y1 y2 y3, LeO (rowcode_Encode.l1 k y0 y1 y2 y3) (rowcode_Encode.l1 (k + 1) y0 y1 y2 y3))
  | 0 => ⟨fun _ _ _ _ _ _ r h => by simp [rowcode_Encode.l0] at h, fun _ _ _ _ _ _ _ _ _ _ r h => by simp [rowcode_Encode.j1] at h, fun _ _ _ _ r h => by simp [rowcode_Encode.l1] at h⟩
  | k + 1 => by
    obtain ⟨ih0, ih1, ih2⟩ := rowcode_Encode.mono_l k
    refine ⟨?_, ?_, ?_⟩
    · intro y0 y1 y2 y3 y4 y5
      unfold rowcode_Encode.l0
      repeat' first
      | (with_reducible exact ih0 _ _ _ _ _ _)
      | (with_reducible exact ih1 _ _ _ _ _ _ _ _ _ _)
      | (with_reducible exact ih2 _ _ _ _)
      | (with_reducible exact LeO.refl _)
      | (with_reducible exact LeO.none _)
      | (with_reducible refine LeO.ite ?_ ?_)
      | (with_reducible refine LeO.bind ?_ (fun _ => ?_))
      | exact ih0 _ _ _ _ _ _
      | exact ih1 _ _ _ _ _ _ _ _ _ _
      | exact ih2 _ _ _ _
      | exact LeO.none _
      | refine LeO.ite ?_ ?_
      | refine LeO.bind ?_ (fun _ => ?_)
    · intro y0 y1 y2 y3 y4 y5 y6 y7 y8 y9
      unfold rowcode_Encode.j1
      repeat' first
      | (with_reducible exact ih0 _ _ _ _ _ _)
      | (with_reducible exact ih1 _ _ _ _ _ _ _ _ _ _)
      | (with_reducible exact ih2 _ _ _ _)
      | (with_reducible exact LeO.refl _)
      | (with_reducible exact LeO.none _)
      | (with_reducible refine LeO.ite ?_ ?_)
      | (with_reducible refine LeO.bind ?_ (fun _ => ?_))
      | exact ih0 _ _ _ _ _ _
      | exact ih1 _ _ _ _ _ _ _ _ _ _
      | exact ih2 _ _ _ _
      | exact LeO.none _
      | refine LeO.ite ?_ ?_
      | refine LeO.bind ?_ (fun _ => ?_)
    · intro y0 y1 y2 y3
      unfold rowcode_Encode.l1
      repeat' first
      | (with_reducible exact ih0 _ _ _ _ _ _)
      | (with_reducible exact ih1 _ _ _ _ _ _ _ _ _ _)
      | (with_reducible exact ih2 _ _ _ _)
      | (with_reducible exact LeO.refl _)
      | (with_reducible exact LeO.none _)
      | (with_reducible refine LeO.ite ?_ ?_)
      | (with_reducible refine LeO.bind ?_ (fun _ => ?_))
      | exact ih0 _ _ _ _ _ _
      | exact ih1 _ _ _ _ _ _ _ _ _ _
      | exact ih2 _ _ _ _
      | exact LeO.none _
      | refine LeO.ite ?_ ?_
      | refine LeO.bind ?_ (fun _ => ?_)
theorem rowcode_Encode.mono : ∀ a0 k, LeO (rowcode_Encode.f k a0) (rowcode_Encode.f (k + 1) a0) := by
  intro a0 k
  obtain ⟨ih0, ih1, ih2⟩ := rowcode_Encode.mono_l k
  unfold rowcode_Encode.f
  repeat' first
      | (with_reducible exact ih0 _ _ _ _ _ _)
      | (with_reducible exact ih1 _ _ _ _ _ _ _ _ _ _)
      | (with_reducible exact ih2 _ _ _ _)
      | (with_reducible exact LeO.refl _)
      | (with_reducible exact LeO.none _)
      | (with_reducible refine LeO.ite ?_ ?_)
      | (with_reducible refine LeO.bind ?_ (fun _ => ?_))
      | exact ih0 _ _ _ _ _ _
      | exact ih1 _ _ _ _ _ _ _ _ _ _
      | exact ih2 _ _ _ _
      | exact LeO.none _
      | refine LeO.ite ?_ ?_
      | refine LeO.bind ?_ (fun _ => ?_)
set_option maxHeartbeats 8000000 in
set_option maxRecDepth 100000 in
theorem rowcode_Encode.calls (k : Nat) (A0 : Option Addr) (c0 : Nat) (l0 : List (S40)) (r1 : List Int) (r2 : Int) (w : World) (hr0 : Kd.C k40 w A0 l0.length l0) (hc0 : l0.length ≤ c0) (h : rowcode_Encode.f k l0 = some (r1, r2)) :
    Calls Try.prog 9 #[.slice A0 l0.length c0] w fun e w' => ∃ v0_ : Value, e = .returned (.tuple #[v0_, .int .i64 r2]) ∧ Kd.R (Kd.int .u8) 5 w' w.heap.size (fun _ => True) v0_ r1 ∧ Below w.heap.size w w' := by
  have hu40 := Try.underlying40
  have HR0 := Aside0.mk hr0
  have HC0 := Aside0.mk hc0
  clear hr0 hc0
  have HB := Aside0.mk (Below.refl w.heap.size w)
  have H : (rowcode_Encode.l0 k l0 (decide ((l0.length : Int) > 12)) true l0 (l0.length : Int) 0) = some (r1, r2) := h
  clear h
  have H' := Aside0.mk H
  clear H
  go_enter Try.func9, Try.ntmps9
  go_wp2
  go_loopg [4, 5, 16] k (fun kq v4 v5 v16 w' => ∃ (x4_1 : Bool) (x5_1 : Bool) (x16_1 : Int), v4 = .bool x4_1 ∧ v5 = .bool x5_1 ∧ v16 = .int .i64 x16_1 ∧ Aside0 (rowcode_Encode.l0 kq l0 x4_1 x5_1 l0 (l0.length : Int) x16_1 = some (r1, r2)) ∧ Aside0 (kq ≤ k) ∧ Aside0 (Below w.heap.size w w'))
  case atStart => exact ⟨(decide ((l0.length : Int) > 12)), (true), (0), (by first | rfl | (simp; done) | (simp [*]; done)), (by first | rfl | (simp; done) | (simp [*]; done)), (by first | rfl | (simp; done) | (simp [*]; done)), H', ⟨Nat.le_refl _⟩, ⟨by repeat (first | (with_reducible first | exact HB.out | apply below_alloc | apply pw_below_drewN | apply below_drew1) | exact HB.out)⟩⟩
  case round =>
    clear H'
    obtain ⟨x4_1, x5_1, x16_1, rfl, rfl, rfl, HA, HK1, HB⟩ := hrel
    cases gk with
    | zero => exact absurd HA.out (by simp [rowcode_Encode.l0])
    | succ k1 =>
      have H := HA.out
      clear HA
      simp only [rowcode_Encode.l0] at H
      by_cases c2 : x16_1 < (l0.length : Int)
      · rw [if_pos c2] at H
        have c2b0 : decide (x16_1 < (l0.length : Int)) = true := decide_eq_true c2
        clear c2
        by_cases c3 : 0 ≤ x16_1
        · rw [if_pos c3] at H
          have c3b0 : decide (0 ≤ x16_1) = true := decide_eq_true c3
          clear c3
          by_cases c4 : x16_1 < (l0.length : Int)
          · rw [if_pos c4] at H
            have c4b0 : decide (x16_1 < (l0.length : Int)) = true := decide_eq_true c4
            clear c4
            have HC5 := Aside0.mk H
            clear H
            have p124 : 0 ≤ (x16_1 : Int) := of_decide_eq_true (by first | (with_reducible assumption) | assumption)
            have q124 : x16_1 < (l0.length : Int) := of_decide_eq_true (by first | (with_reducible assumption) | assumption)
            obtain ⟨ad124, e124, hx124_0, hx124_1, hx124_2, hx124_3⟩ := at_T40 HR0.out x16_1 p124 q124
            cases e124
            replace hx124_0 := (HB.out.cell (World.block_lt_of_cell? w _ hx124_0)).trans hx124_0
            replace hx124_1 := (HB.out.cell (World.block_lt_of_cell? w _ hx124_1)).trans hx124_1
            replace hx124_2 := (HB.out.cell (World.block_lt_of_cell? w _ hx124_2)).trans hx124_2
            replace hx124_3 := (HB.out.cell (World.block_lt_of_cell? w _ hx124_3)).trans hx124_3
            replace p124 := eq_true p124
            replace q124 := eq_true q124
            go_upto_region 5 with (first | ((with_reducible refine gate_dst (N := 7) rfl ?_); (try (refine gate_guard (by rfl) ?_; dsimp only)); refine box_event ?hg (N := 7) ?hd (cs := #[.int .i64 0, .int .i64 0, .string (⟨#[]⟩ : ByteArray), .bool false]) (t := 40) ?hr ?_; (case hd => rfl); (case hg => rfl); (case hr => first | (go_simp; done) | (go_simp; rfl)); intro gb125 hg w6 hbox hb; have n0_ := Aside0.mk (below_step (by repeat (first | (with_reducible first | exact HB.out | apply below_alloc | apply pw_below_drewN | apply below_drew1) | exact HB.out)) hb); have n1_ := Aside0.mk (hbox); have n2_ := Aside0.mk ((by rw [hg]; exact (below_size (by repeat (first | (with_reducible first | exact HB.out | apply below_alloc | apply pw_below_drewN | apply below_drew1) | exact HB.out))) : w.heap.size ≤ gb125)); have n3_ := Aside0.mk ((by rw [hg]; exact (below_size (by repeat (first | (with_reducible first | exact HB.out | apply below_alloc | apply pw_below_drewN | apply below_drew1) | exact HB.out))) : w.heap.size ≤ gb125)); clear HB; have HB := n0_; have BK125 := n1_; have GW125 := n2_; have GE125 := n3_; clear n0_ n1_ n2_ n3_; clear hb hbox hg; have hcz7_0 : w6.cell? ⟨gb125, 0, none⟩ = some (.int .i64 0) := (blk_cell BK125.out 0).trans rfl; have hcz7_1 : w6.cell? ⟨gb125, 1, none⟩ = some (.int .i64 0) := (blk_cell BK125.out 1).trans rfl; have hcz7_2 : w6.cell? ⟨gb125, 2, none⟩ = some (.string (⟨#[]⟩ : ByteArray)) := (blk_cell BK125.out 2).trans rfl; have hcz7_3 : w6.cell? ⟨gb125, 3, none⟩ = some (.bool false) := (blk_cell BK125.out 3).trans rfl; have hfz7_0 := blk_frozen BK125.out 0; have hfz7_1 := blk_frozen BK125.out 1; have hfz7_2 := blk_frozen BK125.out 2; have hfz7_3 := blk_frozen BK125.out 3))
            (try simp only [Act.put, List.setIfInBounds_toArray, List.set_cons_zero, List.set_cons_succ])
            go_cut [4] (fun v4 wc => ∃ (kq : Nat) (x4_4 : Bool), v4 = .bool x4_4 ∧ Aside0 (rowcode_Encode.j1 kq l0 x4_4 x5_1 l0 (l0.length : Int) x16_1 ((rd_T40 l0 x16_1).f0) ((rd_T40 l0 x16_1).f1) ((rd_T40 l0 x16_1).f2) ((rd_T40 l0 x16_1).f3) = some (r1, r2)) ∧ Aside0 (kq ≤ k1) ∧ Aside0 (wc.heap[gb125]? = some (.cells #[.int .i64 ((rd_T40 l0 x16_1).f0), .int .i64 ((rd_T40 l0 x16_1).f1), .string ((rd_T40 l0 x16_1).f2), .bool ((rd_T40 l0 x16_1).f3)] 40 (0, 0))) ∧ Aside0 (Below w.heap.size w wc))
            case first =>
              have H := HC5.out
              clear HC5
              by_cases c8 : x4_1 = true
              · subst c8
                have H1 : (rowcode_Encode.j1 k1 l0 true x5_1 l0 (l0.length : Int) x16_1 ((rd_T40 l0 x16_1).f0) ((rd_T40 l0 x16_1).f1) ((rd_T40 l0 x16_1).f2) ((rd_T40 l0 x16_1).f3)) = some (r1, r2) := by rw [if_pos rfl] at H; exact H
                clear H
                have H := H1
                clear H1
                have H' := Aside0.mk H
                clear H
                go_wp2
                go_meet
                case rel => exact ⟨_, (true), (by first | rfl | (simp; done) | (simp [*]; done)), H', ⟨by have := HK1.out; first | omega | exact Nat.le_refl _⟩, ⟨by (with_reducible repeat (first | refine blk_drewN ?_ _ | refine blk_drew ?_ | refine blk_alloc ?_ _)); refine blk_put (cs := #[.int .i64 ((rd_T40 l0 x16_1).f0), .int .i64 ((rd_T40 l0 x16_1).f1), .string ((rd_T40 l0 x16_1).f2), .bool false]) ?_ 3 _ rfl; (with_reducible repeat (first | refine blk_drewN ?_ _ | refine blk_drew ?_ | refine blk_alloc ?_ _)); refine blk_put (cs := #[.int .i64 ((rd_T40 l0 x16_1).f0), .int .i64 ((rd_T40 l0 x16_1).f1), .string (⟨#[]⟩ : ByteArray), .bool false]) ?_ 2 _ rfl; (with_reducible repeat (first | refine blk_drewN ?_ _ | refine blk_drew ?_ | refine blk_alloc ?_ _)); refine blk_put (cs := #[.int .i64 ((rd_T40 l0 x16_1).f0), .int .i64 0, .string (⟨#[]⟩ : ByteArray), .bool false]) ?_ 1 _ rfl; (with_reducible repeat (first | refine blk_drewN ?_ _ | refine blk_drew ?_ | refine blk_alloc ?_ _)); refine blk_put (cs := #[.int .i64 0, .int .i64 0, .string (⟨#[]⟩ : ByteArray), .bool false]) ?_ 0 _ rfl; (with_reducible repeat (first | refine blk_drewN ?_ _ | refine blk_drew ?_ | refine blk_alloc ?_ _)); exact BK125.out⟩, ⟨by repeat (first | (with_reducible first | exact HB.out | apply below_alloc | apply pw_below_drewN | apply below_drew1 | refine below_set ?_ GE125.out) | exact HB.out)⟩⟩
              · replace c8 := Bool.eq_false_iff.mpr c8
                subst c8
                have H1 : (if ((rd_T40 l0 x16_1).f0) = 2 then (rowcode_Encode.j1 k1 l0 (decide ((((rd_T40 l0 x16_1).f2).size : Int) > 400)) x5_1 l0 (l0.length : Int) x16_1 ((rd_T40 l0 x16_1).f0) ((rd_T40 l0 x16_1).f1) ((rd_T40 l0 x16_1).f2) ((rd_T40 l0 x16_1).f3)) else (rowcode_Encode.j1 k1 l0 false x5_1 l0 (l0.length : Int) x16_1 ((rd_T40 l0 x16_1).f0) ((rd_T40 l0 x16_1).f1) ((rd_T40 l0 x16_1).f2) ((rd_T40 l0 x16_1).f3))) = some (r1, r2) := by rw [if_neg (show ¬ (false = true) by decide)] at H; exact H
                clear H
                have H := H1
                clear H1
                by_cases c9 : ((rd_T40 l0 x16_1).f0) = 2
                · rw [if_pos c9] at H
                  have c9b0 : (((rd_T40 l0 x16_1).f0) == 2) = true := beq_iff_eq.mpr c9
                  have c9b1 : (((rd_T40 l0 x16_1).f0) != 2) = false := bne_eq_false_iff_eq.mpr c9
                  clear c9
                  (first | rw [c9b0] | (simp only [i64_w, i32_w]; rw [c9b0]) | skip)
                  have H' := Aside0.mk H
                  clear H
                  have hcz10_0 : w6.cell? ⟨gb125, 0, none⟩ = some (.int .i64 0) := (blk_cell BK125.out 0).trans rfl
                  have hcz10_1 : w6.cell? ⟨gb125, 1, none⟩ = some (.int .i64 0) := (blk_cell BK125.out 1).trans rfl
                  have hcz10_2 : w6.cell? ⟨gb125, 2, none⟩ = some (.string (⟨#[]⟩ : ByteArray)) := (blk_cell BK125.out 2).trans rfl
                  have hcz10_3 : w6.cell? ⟨gb125, 3, none⟩ = some (.bool false) := (blk_cell BK125.out 3).trans rfl
                  have hfz10_0 := blk_frozen BK125.out 0
                  have hfz10_1 := blk_frozen BK125.out 1
                  have hfz10_2 := blk_frozen BK125.out 2
                  have hfz10_3 := blk_frozen BK125.out 3
                  go_wp2
                  go_meet
                  case rel => exact ⟨_, (decide ((((rd_T40 l0 x16_1).f2).size : Int) > 400)), (by first | rfl | (simp; done) | (simp [*]; done)), H', ⟨by have := HK1.out; first | omega | exact Nat.le_refl _⟩, ⟨by (with_reducible repeat (first | refine blk_drewN ?_ _ | refine blk_drew ?_ | refine blk_alloc ?_ _)); refine blk_put (cs := #[.int .i64 ((rd_T40 l0 x16_1).f0), .int .i64 ((rd_T40 l0 x16_1).f1), .string ((rd_T40 l0 x16_1).f2), .bool false]) ?_ 3 _ rfl; (with_reducible repeat (first | refine blk_drewN ?_ _ | refine blk_drew ?_ | refine blk_alloc ?_ _)); refine blk_put (cs := #[.int .i64 ((rd_T40 l0 x16_1).f0), .int .i64 ((rd_T40 l0 x16_1).f1), .string (⟨#[]⟩ : ByteArray), .bool false]) ?_ 2 _ rfl; (with_reducible repeat (first | refine blk_drewN ?_ _ | refine blk_drew ?_ | refine blk_alloc ?_ _)); refine blk_put (cs := #[.int .i64 ((rd_T40 l0 x16_1).f0), .int .i64 0, .string (⟨#[]⟩ : ByteArray), .bool false]) ?_ 1 _ rfl; (with_reducible repeat (first | refine blk_drewN ?_ _ | refine blk_drew ?_ | refine blk_alloc ?_ _)); refine blk_put (cs := #[.int .i64 0, .int .i64 0, .string (⟨#[]⟩ : ByteArray), .bool false]) ?_ 0 _ rfl; (with_reducible repeat (first | refine blk_drewN ?_ _ | refine blk_drew ?_ | refine blk_alloc ?_ _)); exact BK125.out⟩, ⟨by repeat (first | (with_reducible first | exact HB.out | apply below_alloc | apply pw_below_drewN | apply below_drew1 | refine below_set ?_ GE125.out) | exact HB.out)⟩⟩
                · rw [if_neg c9] at H
                  have c9b0 : (((rd_T40 l0 x16_1).f0) == 2) = false := beq_eq_false_iff_ne.mpr c9
                  have c9b1 : (((rd_T40 l0 x16_1).f0) != 2) = true := bne_iff_ne.mpr c9
                  (first | rw [c9b0] | (simp only [i64_w, i32_w]; rw [c9b0]) | skip)
                  have H' := Aside0.mk H
                  clear H
                  have hcz11_0 : w6.cell? ⟨gb125, 0, none⟩ = some (.int .i64 0) := (blk_cell BK125.out 0).trans rfl
                  have hcz11_1 : w6.cell? ⟨gb125, 1, none⟩ = some (.int .i64 0) := (blk_cell BK125.out 1).trans rfl
                  have hcz11_2 : w6.cell? ⟨gb125, 2, none⟩ = some (.string (⟨#[]⟩ : ByteArray)) := (blk_cell BK125.out 2).trans rfl
                  have hcz11_3 : w6.cell? ⟨gb125, 3, none⟩ = some (.bool false) := (blk_cell BK125.out 3).trans rfl
                  have hfz11_0 := blk_frozen BK125.out 0
                  have hfz11_1 := blk_frozen BK125.out 1
                  have hfz11_2 := blk_frozen BK125.out 2
                  have hfz11_3 := blk_frozen BK125.out 3
                  go_wp2
                  go_meet
                  case rel => exact ⟨_, (false), (by first | rfl | (simp; done) | (simp [*]; done)), H', ⟨by have := HK1.out; first | omega | exact Nat.le_refl _⟩, ⟨by (with_reducible repeat (first | refine blk_drewN ?_ _ | refine blk_drew ?_ | refine blk_alloc ?_ _)); refine blk_put (cs := #[.int .i64 ((rd_T40 l0 x16_1).f0), .int .i64 ((rd_T40 l0 x16_1).f1), .string ((rd_T40 l0 x16_1).f2), .bool false]) ?_ 3 _ rfl; (with_reducible repeat (first | refine blk_drewN ?_ _ | refine blk_drew ?_ | refine blk_alloc ?_ _)); refine blk_put (cs := #[.int .i64 ((rd_T40 l0 x16_1).f0), .int .i64 ((rd_T40 l0 x16_1).f1), .string (⟨#[]⟩ : ByteArray), .bool false]) ?_ 2 _ rfl; (with_reducible repeat (first | refine blk_drewN ?_ _ | refine blk_drew ?_ | refine blk_alloc ?_ _)); refine blk_put (cs := #[.int .i64 ((rd_T40 l0 x16_1).f0), .int .i64 0, .string (⟨#[]⟩ : ByteArray), .bool false]) ?_ 1 _ rfl; (with_reducible repeat (first | refine blk_drewN ?_ _ | refine blk_drew ?_ | refine blk_alloc ?_ _)); refine blk_put (cs := #[.int .i64 0, .int .i64 0, .string (⟨#[]⟩ : ByteArray), .bool false]) ?_ 0 _ rfl; (with_reducible repeat (first | refine blk_drewN ?_ _ | refine blk_drew ?_ | refine blk_alloc ?_ _)); exact BK125.out⟩, ⟨by repeat (first | (with_reducible first | exact HB.out | apply below_alloc | apply pw_below_drewN | apply below_drew1 | refine below_set ?_ GE125.out) | exact HB.out)⟩⟩
            case rest =>
              clear HC5
              try clear p1
              try clear q1
              try clear hx1
              try clear c2
              try clear c2b0
              try clear p2
              try clear c3
              try clear c3b0
              try clear c4
              try clear c4b0
              try clear c8
              try clear c9
              try clear c9b0
              try clear c9b1
              try clear hcz10_0
              try clear hcz10_1
              try clear hcz10_2
              try clear hcz10_3
              try clear hcz11_0
              try clear hcz11_1
              try clear hcz11_2
              try clear hcz11_3
              try clear hcz7_0
              try clear hcz7_1
              try clear hcz7_2
              try clear hcz7_3
              try clear hfz10_0
              try clear hfz10_1
              try clear hfz10_2
              try clear hfz10_3
              try clear hfz11_0
              try clear hfz11_1
              try clear hfz11_2
              try clear hfz11_3
              try clear hfz7_0
              try clear hfz7_1
              try clear hfz7_2
              try clear hfz7_3
              try clear hx124_0
              try clear hx124_1
              try clear hx124_2
              try clear hx124_3
              try clear p124
              try clear q124
              obtain ⟨kq, x4_4, rfl, HA, HJ4, BK125, HB⟩ := hcut
              cases kq with
              | zero => exact absurd HA.out (by simp [rowcode_Encode.j1])
              | succ kj4 =>
                have H := HA.out
                clear HA
                simp only [rowcode_Encode.j1] at H
                by_cases c12 : x5_1 = true
                · subst c12
                  have H1 : ((value_Right.f ((rd_T40 l0 x16_1).f0) ((rd_T40 l0 x16_1).f1) ((rd_T40 l0 x16_1).f2) ((rd_T40 l0 x16_1).f3)).bind fun t126 => (rowcode_Encode.l0 kj4 l0 x4_4 t126 l0 (l0.length : Int) (wrap64 (x16_1 + 1)))) = some (r1, r2) := by rw [if_pos rfl] at H; exact H
                  clear H
                  have H := H1
                  clear H1
                  replace H := Option.bind_eq_some_iff.mp H
                  obtain ⟨t126, A130, H⟩ := H
                  replace H : (rowcode_Encode.l0 kj4 l0 x4_4 t126 l0 (l0.length : Int) (wrap64 (x16_1 + 1))) = some (r1, r2) := H
                  have A13 := Aside0.mk A130
                  clear A130
                  have H' := Aside0.mk H
                  clear H
                  have hcz14_0 : wc.cell? ⟨gb125, 0, none⟩ = some (.int .i64 ((rd_T40 l0 x16_1).f0)) := (blk_cell BK125.out 0).trans rfl
                  have hcz14_1 : wc.cell? ⟨gb125, 1, none⟩ = some (.int .i64 ((rd_T40 l0 x16_1).f1)) := (blk_cell BK125.out 1).trans rfl
                  have hcz14_2 : wc.cell? ⟨gb125, 2, none⟩ = some (.string ((rd_T40 l0 x16_1).f2)) := (blk_cell BK125.out 2).trans rfl
                  have hcz14_3 : wc.cell? ⟨gb125, 3, none⟩ = some (.bool ((rd_T40 l0 x16_1).f3)) := (blk_cell BK125.out 3).trans rfl
                  have hfz14_0 := blk_frozen BK125.out 0
                  have hfz14_1 := blk_frozen BK125.out 1
                  have hfz14_2 := blk_frozen BK125.out 2
                  have hfz14_3 := blk_frozen BK125.out 3
                  go_wp2_with (first | (go_at_call 17; (with_reducible refine (value_Right.calls ((rd_T40 l0 x16_1).f0) ((rd_T40 l0 x16_1).f1) ((rd_T40 l0 x16_1).f2) ((rd_T40 l0 x16_1).f3) t126 _ A13.out).mono ?_); rintro e w15 ⟨rfl, hb⟩; have n0_ := Aside0.mk (blk_below (g := gb125) (o := .cells #[.int .i64 ((rd_T40 l0 x16_1).f0), .int .i64 ((rd_T40 l0 x16_1).f1), .string ((rd_T40 l0 x16_1).f2), .bool ((rd_T40 l0 x16_1).f3)] 40 (0, 0)) (by (with_reducible repeat (first | refine blk_drewN ?_ _ | refine blk_drew ?_ | refine blk_alloc ?_ _)); exact BK125.out) hb); have n1_ := Aside0.mk (below_step (by repeat (first | (with_reducible first | exact HB.out | apply below_alloc | apply pw_below_drewN | apply below_drew1 | refine below_set ?_ GE125.out) | exact HB.out)) hb); clear BK125; clear HB; have BK125 := n0_; have HB := n1_; clear n0_ n1_; (try clear hb); (try clear hb2); (try clear hk); (try clear hi)))
                  go_roundg kj4
                  case measure => have := HK1.out; have := HJ4.out; omega
                  case rel => exact ⟨(x4_4), (t126), (wrap64 (x16_1 + 1)), (by first | rfl | (simp; done) | (simp [*]; done)), (by first | rfl | (simp; done) | (simp [*]; done)), (by first | rfl | (simp; done) | (simp [*]; done)), H', ⟨by have := HK1.out; have := HJ4.out; omega⟩, ⟨by repeat (first | (with_reducible first | exact HB.out | apply below_alloc | apply pw_below_drewN | apply below_drew1 | refine below_set ?_ GE125.out) | exact HB.out)⟩⟩
                · replace c12 := Bool.eq_false_iff.mpr c12
                  subst c12
                  have H1 : (rowcode_Encode.l0 kj4 l0 x4_4 false l0 (l0.length : Int) (wrap64 (x16_1 + 1))) = some (r1, r2) := by rw [if_neg (show ¬ (false = true) by decide)] at H; exact H
                  clear H
                  have H := H1
                  clear H1
                  have H' := Aside0.mk H
                  clear H
                  go_wp2
                  go_roundg kj4
                  case measure => have := HK1.out; have := HJ4.out; omega
                  case rel => exact ⟨(x4_4), (false), (wrap64 (x16_1 + 1)), (by first | rfl | (simp; done) | (simp [*]; done)), (by first | rfl | (simp; done) | (simp [*]; done)), (by first | rfl | (simp; done) | (simp [*]; done)), H', ⟨by have := HK1.out; have := HJ4.out; omega⟩, ⟨by repeat (first | (with_reducible first | exact HB.out | apply below_alloc | apply pw_below_drewN | apply below_drew1 | refine below_set ?_ GE125.out) | exact HB.out)⟩⟩
          · rw [if_neg c4] at H
            exact absurd H (by simp)
        · rw [if_neg c3] at H
          exact absurd H (by simp)
      · rw [if_neg c2] at H
        have c2b0 : decide (x16_1 < (l0.length : Int)) = false := decide_eq_false c2
        clear c2
        by_cases c16 : x4_1 = true
        · subst c16
          have H1 : (some (([] : List Int), 42)) = some (r1, r2) := by rw [if_pos rfl] at H; exact H
          clear H
          have H := H1
          clear H1
          simp only [Option.some.injEq, Prod.mk.injEq] at H
          obtain ⟨rfl, rfl⟩ := H
          go_wp2
          go_ret2
          exact ⟨_, by first | rfl | (simp [errW_none, errW_some] <;> rfl) | (simp [*, errW_none, errW_some] <;> rfl), by first | exact Kd.R_nil _ _ _ _ _ | exact Kd.N_nil _ _ _ _ _ | exact Kd.V_nil _ _ _ _ _ | exact Kd.Q_nil _ _ _ _ _ | exact Kd.S_nil _ _ _ _ _, by repeat (first | (with_reducible first | exact HB.out | apply below_alloc | apply pw_below_drewN | apply below_drew1) | exact HB.out)⟩
        · replace c16 := Bool.eq_false_iff.mpr c16
          subst c16
          have H1 : (if x5_1 = true then (rowcode_Encode.l1 k1 (([((l0.length : Int)) % 256] : List Int)) l0 (l0.length : Int) 0) else (some (([] : List Int), 41))) = some (r1, r2) := by rw [if_neg (show ¬ (false = true) by decide)] at H; exact H
          clear H
          have H := H1
          clear H1
          by_cases c17 : x5_1 = true
          · subst c17
            have H1 : (rowcode_Encode.l1 k1 (([((l0.length : Int)) % 256] : List Int)) l0 (l0.length : Int) 0) = some (r1, r2) := by rw [if_pos rfl] at H; exact H
            clear H
            have H := H1
            clear H1
            obtain ⟨y127, hy127⟩ : ∃ y_ : List Int, y_ = (([((l0.length : Int)) % 256] : List Int)) := ⟨_, rfl⟩
            replace H : (rowcode_Encode.l1 k1 y127 l0 (l0.length : Int) 0) = some (r1, r2) := by first | (rw [hy127]; with_reducible exact H) | (have H2_ := (Option.bind_some _ _).symm.trans H; rw [hy127]; with_reducible exact H2_) | (have H2_ := (Option.bind_some _ _).symm.trans H; with_reducible exact H2_) | with_reducible exact H | (rw [hy127]; exact H) | exact H
            have Ny127 := Aside0.mk hy127
            clear hy127
            have H' := Aside0.mk H
            clear H
            go_wp2_with (first | ((with_reducible refine gate_dst (N := 46) rfl ?_); (try (refine gate_guard (by rfl) ?_; dsimp only)); refine Kd.R_lit (Kd.int .u8) _ 5 ?hg (N := 46) ?hd (xs := ([((l0.length : Int)) % 256] : List Int)) (inner := [.int .u8 (((l0.length : Int)) % 256)]) (ok := fun _ => True) (okp := fun _ => True) ?hr ?hp (fun _ hk => hk) trivial (Below.refl _ _) (Nat.le_refl _) (by simp) ?_; (case hd => rfl); (case hg => rfl); (case hr => first | (go_simp; done) | (go_simp; rfl)); (case hp => exact (Reps.one (show Kd.M (Kd.int .u8) _ _ _ (((l0.length : Int)) % 256) [.int .u8 (((l0.length : Int)) % 256)] from rfl) (Reps.none _ _))); intro v128 w18 ho19 hb hg_ hnew_; clear hg_ hnew_; (first | rw [← Ny127.out] at ho19 | (simp only [Int.reduceToNat] at ho19; rw [← Ny127.out] at ho19)); have n0_ := Aside0.mk (Kd.R_lower ho19 (below_size (by repeat (first | (with_reducible first | exact HB.out | apply below_alloc | apply pw_below_drewN | apply below_drew1) | exact HB.out)))); have n1_ := Aside0.mk (below_step (by repeat (first | (with_reducible first | exact HB.out | apply below_alloc | apply pw_below_drewN | apply below_drew1) | exact HB.out)) hb); clear HB; have HO129 := n0_; have HB := n1_; clear n0_ n1_; clear hb ho19))
            go_loopg [8, 49] k1 (fun kq v8 v49 w' => ∃ (x8_2 : List Int) (x49_2 : Int), v49 = .int .i64 x49_2 ∧ Aside0 (rowcode_Encode.l1 kq x8_2 l0 (l0.length : Int) x49_2 = some (r1, r2)) ∧ Aside0 (kq ≤ k1) ∧ Aside0 (Kd.R (Kd.int .u8) 5 w' w.heap.size (fun _ => True) v8 x8_2) ∧ Aside0 (Below w.heap.size w w'))
            case atStart => exact ⟨(y127), (0), (by first | rfl | (simp; done) | (simp [*]; done)), H', ⟨Nat.le_refl _⟩, ⟨by (with_reducible repeat (first | apply Kd.R_alloc | apply Kd.R_drewN | apply Kd.R_drew)); exact HO129.out⟩, ⟨by repeat (first | (with_reducible first | exact HB.out | apply below_alloc | apply pw_below_drewN | apply below_drew1) | exact HB.out)⟩⟩
            case round =>
              clear H'
              try clear c1
              try clear p1
              try clear q1
              try clear hx1
              try clear c2
              try clear c2b0
              try clear p2
              try clear c3
              try clear c3b0
              try clear c4
              try clear c4b0
              try clear p6
              try clear c8
              try clear c9
              try clear c9b0
              try clear c9b1
              try clear c12
              try clear p12
              try clear q12
              try clear hx12
              try clear c16
              try clear c17
              try clear hcz10_0
              try clear hcz10_1
              try clear hcz10_2
              try clear hcz10_3
              try clear hcz11_0
              try clear hcz11_1
              try clear hcz11_2
              try clear hcz11_3
              try clear hcz14_0
              try clear hcz14_1
              try clear hcz14_2
              try clear hcz14_3
              try clear hcz7_0
              try clear hcz7_1
              try clear hcz7_2
              try clear hcz7_3
              try clear hfz10_0
              try clear hfz10_1
              try clear hfz10_2
              try clear hfz10_3
              try clear hfz11_0
              try clear hfz11_1
              try clear hfz11_2
              try clear hfz11_3
              try clear hfz14_0
              try clear hfz14_1
              try clear hfz14_2
              try clear hfz14_3
              try clear hfz7_0
              try clear hfz7_1
              try clear hfz7_2
              try clear hfz7_3
              try clear hx124_0
              try clear hx124_1
              try clear hx124_2
              try clear hx124_3
              try clear p1
              try clear p124
              try clear p2
              try clear q1
              try clear q124
              obtain ⟨x8_2, x49_2, rfl, HA, HK2, HO_8, HB⟩ := hrel
              cases gk with
              | zero => exact absurd HA.out (by simp [rowcode_Encode.l1])
              | succ k2 =>
                have H := HA.out
                clear HA
                simp only [rowcode_Encode.l1] at H
                by_cases c20 : x49_2 < (l0.length : Int)
                · rw [if_pos c20] at H
                  have c20b0 : decide (x49_2 < (l0.length : Int)) = true := decide_eq_true c20
                  clear c20
                  by_cases c21 : 0 ≤ x49_2
                  · rw [if_pos c21] at H
                    have c21b0 : decide (0 ≤ x49_2) = true := decide_eq_true c21
                    clear c21
                    by_cases c22 : x49_2 < (l0.length : Int)
                    · rw [if_pos c22] at H
                      have c22b0 : decide (x49_2 < (l0.length : Int)) = true := decide_eq_true c22
                      clear c22
                      by_cases c23 : ((rd_T40 l0 x49_2).f0) = 0
                      · rw [if_pos c23] at H
                        have c23b0 : (((rd_T40 l0 x49_2).f0) == 0) = true := beq_iff_eq.mpr c23
                        have c23b1 : (((rd_T40 l0 x49_2).f0) != 0) = false := bne_eq_false_iff_eq.mpr c23
                        clear c23
                        by_cases c24 : x8_2.length < 140737488355328
                        · rw [if_pos c24] at H
                          have LMc24 := Aside0.mk c24
                          clear c24
                          obtain ⟨y132, hy132⟩ : ∃ y_ : List Int, y_ = (x8_2 ++ [0]) := ⟨_, rfl⟩
                          replace H : (rowcode_Encode.l1 k2 y132 l0 (l0.length : Int) (wrap64 (x49_2 + 1))) = some (r1, r2) := by first | (rw [hy132]; with_reducible exact H) | (have H2_ := (Option.bind_some _ _).symm.trans H; rw [hy132]; with_reducible exact H2_) | (have H2_ := (Option.bind_some _ _).symm.trans H; with_reducible exact H2_) | with_reducible exact H | (rw [hy132]; exact H) | exact H
                          have Ny132 := Aside0.mk hy132
                          clear hy132
                          have H' := Aside0.mk H
                          clear H
                          have p130 : 0 ≤ (x49_2 : Int) := of_decide_eq_true (by first | (with_reducible assumption) | assumption)
                          have q130 : x49_2 < (l0.length : Int) := of_decide_eq_true (by first | (with_reducible assumption) | assumption)
                          obtain ⟨ad130, e130, hx130_0, hx130_1, hx130_2, hx130_3⟩ := at_T40 HR0.out x49_2 p130 q130
                          cases e130
                          replace hx130_0 := (HB.out.cell (World.block_lt_of_cell? w _ hx130_0)).trans hx130_0
                          replace hx130_1 := (HB.out.cell (World.block_lt_of_cell? w _ hx130_1)).trans hx130_1
                          replace hx130_2 := (HB.out.cell (World.block_lt_of_cell? w _ hx130_2)).trans hx130_2
                          replace hx130_3 := (HB.out.cell (World.block_lt_of_cell? w _ hx130_3)).trans hx130_3
                          replace p130 := eq_true p130
                          replace q130 := eq_true q130
                          go_wp2_with (first | ((with_reducible refine gate_dst (N := 10) rfl ?_); (try (refine gate_guard (by rfl) ?_; dsimp only)); refine box_event ?hg (N := 10) ?hd (cs := #[.int .i64 0, .int .i64 0, .string (⟨#[]⟩ : ByteArray), .bool false]) (t := 40) ?hr ?_; (case hd => rfl); (case hg => rfl); (case hr => first | (go_simp; done) | (go_simp; rfl)); intro gb131 hg w25 hbox hb; have n0_ := Aside0.mk (Kd.R_below (by (with_reducible repeat (first | apply Kd.R_alloc | apply Kd.R_drewN | apply Kd.R_drew)); exact HO_8.out) hb); have n1_ := Aside0.mk (below_step (by repeat (first | (with_reducible first | exact HB.out | apply below_alloc | apply pw_below_drewN | apply below_drew1) | exact HB.out)) hb); have n2_ := Aside0.mk (hbox); have n3_ := Aside0.mk ((by rw [hg]; exact (below_size (by repeat (first | (with_reducible first | exact HB.out | apply below_alloc | apply pw_below_drewN | apply below_drew1) | exact HB.out))) : w.heap.size ≤ gb131)); have n4_ := Aside0.mk ((by rw [hg]; exact (below_size (by repeat (first | (with_reducible first | exact HB.out | apply below_alloc | apply pw_below_drewN | apply below_drew1) | exact HB.out))) : w.heap.size ≤ gb131)); clear HO_8; clear HB; have HO_8 := n0_; have HB := n1_; have BK131 := n2_; have GW131 := n3_; have GE131 := n4_; clear n0_ n1_ n2_ n3_ n4_; clear hb hbox hg; have hcz26_0 : w25.cell? ⟨gb131, 0, none⟩ = some (.int .i64 0) := (blk_cell BK131.out 0).trans rfl; have hcz26_1 : w25.cell? ⟨gb131, 1, none⟩ = some (.int .i64 0) := (blk_cell BK131.out 1).trans rfl; have hcz26_2 : w25.cell? ⟨gb131, 2, none⟩ = some (.string (⟨#[]⟩ : ByteArray)) := (blk_cell BK131.out 2).trans rfl; have hcz26_3 : w25.cell? ⟨gb131, 3, none⟩ = some (.bool false) := (blk_cell BK131.out 3).trans rfl; have hfz26_0 := blk_frozen BK131.out 0; have hfz26_1 := blk_frozen BK131.out 1; have hfz26_2 := blk_frozen BK131.out 2; have hfz26_3 := blk_frozen BK131.out 3) | ((with_reducible refine gate_builtin (b := .append) (xs := #[.tmp 57, .tmp 58]) rfl ?_); (try (refine gate_guard (by rfl) ?_; dsimp only)); at_builtin; refine Kd.R_append (Kd.int .u8) (w0 := w) w.heap.size rfl (.tmp 57) (.tmp 58) 25 5 (.int .u8 0) 1 rfl Try.underlying25 info5 rfl (by decide) (by omega) u8 x8_2 0 [.int .u8 0] (fun _ => True) (fun _ => False) rfl (by first | (go_simp; done) | (go_simp; rfl)) ?aP (fun _ hk => hk.elim) ?aF ?aO ?aB ?aS ?aL ?_; (case aP => exact rfl); (case aB => exact (by repeat (first | (with_reducible first | exact HB.out | apply below_alloc | apply pw_below_drewN | apply below_drew1 | refine below_set ?_ GE131.out) | exact HB.out))); (case aF => exact (fun _ _ => trivial)); (case aO => exact (by (with_reducible repeat (first | apply Kd.R_alloc | apply Kd.R_drewN | apply Kd.R_drew)); exact Kd.R_mono (Kd.R_far (p := ⟨gb131, 3, none⟩) (Kd.R_far (p := ⟨gb131, 2, none⟩) (Kd.R_far (p := ⟨gb131, 1, none⟩) (Kd.R_far (p := ⟨gb131, 0, none⟩) (Kd.R_types HO_8.out BK131.out (by decide)) (fun _ hk => hk.2) (.int .i64 ((rd_T40 l0 x49_2).f0))) (fun _ hk => hk.2) (.int .i64 ((rd_T40 l0 x49_2).f1))) (fun _ hk => hk.2) (.string ((rd_T40 l0 x49_2).f2))) (fun _ hk => hk.2) (.bool ((rd_T40 l0 x49_2).f3))) (fun _ hk => trivial))); (case aS => exact (below_size (by repeat (first | (with_reducible first | exact HB.out | apply below_alloc | apply pw_below_drewN | apply below_drew1 | refine below_set ?_ GE131.out) | exact HB.out)))); (case aL => have := LMc24.out; omega); intro v133 w27 ho hb hg hat; rw [← Ny132.out] at ho; have n0_ := Aside0.mk (blk_grown (g := gb131) (o := .cells #[.int .i64 ((rd_T40 l0 x49_2).f0), .int .i64 ((rd_T40 l0 x49_2).f1), .string ((rd_T40 l0 x49_2).f2), .bool ((rd_T40 l0 x49_2).f3)] 40 (0, 0)) (by (with_reducible repeat (first | refine blk_drewN ?_ _ | refine blk_drew ?_ | refine blk_alloc ?_ _)); refine blk_put (cs := #[.int .i64 ((rd_T40 l0 x49_2).f0), .int .i64 ((rd_T40 l0 x49_2).f1), .string ((rd_T40 l0 x49_2).f2), .bool false]) ?_ 3 _ rfl; (with_reducible repeat (first | refine blk_drewN ?_ _ | refine blk_drew ?_ | refine blk_alloc ?_ _)); refine blk_put (cs := #[.int .i64 ((rd_T40 l0 x49_2).f0), .int .i64 ((rd_T40 l0 x49_2).f1), .string (⟨#[]⟩ : ByteArray), .bool false]) ?_ 2 _ rfl; (with_reducible repeat (first | refine blk_drewN ?_ _ | refine blk_drew ?_ | refine blk_alloc ?_ _)); refine blk_put (cs := #[.int .i64 ((rd_T40 l0 x49_2).f0), .int .i64 0, .string (⟨#[]⟩ : ByteArray), .bool false]) ?_ 1 _ rfl; (with_reducible repeat (first | refine blk_drewN ?_ _ | refine blk_drew ?_ | refine blk_alloc ?_ _)); refine blk_put (cs := #[.int .i64 0, .int .i64 0, .string (⟨#[]⟩ : ByteArray), .bool false]) ?_ 0 _ rfl; (with_reducible repeat (first | refine blk_drewN ?_ _ | refine blk_drew ?_ | refine blk_alloc ?_ _)); exact BK131.out) hg (Kd.R_ne HO_8.out BK131.out (by decide))); have n1_ := Aside0.mk (hb); have n2_ := Aside0.mk (ho); clear BK131; clear HB; clear HO_8; have BK131 := n0_; have HB := n1_; have HO134 := n2_; clear n0_ n1_ n2_; clear ho hb hg hat))
                          go_roundg k2
                          case measure => have := HK1.out; have := HK2.out; omega
                          case rel => exact ⟨(y132), (wrap64 (x49_2 + 1)), (by first | rfl | (simp; done) | (simp [*]; done)), H', ⟨by have := HK1.out; have := HK2.out; omega⟩, ⟨by (with_reducible repeat (first | apply Kd.R_alloc | apply Kd.R_drewN | apply Kd.R_drew)); exact HO134.out⟩, ⟨by repeat (first | (with_reducible first | exact HB.out | apply below_alloc | apply pw_below_drewN | apply below_drew1 | refine below_set ?_ GE131.out) | exact HB.out)⟩⟩
                        · rw [if_neg c24] at H
                          exact absurd H (by simp)
                      · rw [if_neg c23] at H
                        have c23b0 : (((rd_T40 l0 x49_2).f0) == 0) = false := beq_eq_false_iff_ne.mpr c23
                        have c23b1 : (((rd_T40 l0 x49_2).f0) != 0) = true := bne_iff_ne.mpr c23
                        by_cases c28 : ((rd_T40 l0 x49_2).f0) = 1
                        · rw [if_pos c28] at H
                          have c28b0 : (((rd_T40 l0 x49_2).f0) == 1) = true := beq_iff_eq.mpr c28
                          have c28b1 : (((rd_T40 l0 x49_2).f0) != 1) = false := bne_eq_false_iff_eq.mpr c28
                          clear c28
                          by_cases c29 : x8_2.length < 140737488355328
                          · rw [if_pos c29] at H
                            have LMc29 := Aside0.mk c29
                            clear c29
                            obtain ⟨y135, hy135⟩ : ∃ y_ : List Int, y_ = (x8_2 ++ [1]) := ⟨_, rfl⟩
                            replace H : ((octets_Append.f y135 (IntKind.u64.wrap ((rd_T40 l0 x49_2).f1)) 8).bind fun t138 => (rowcode_Encode.l1 k2 t138 l0 (l0.length : Int) (wrap64 (x49_2 + 1)))) = some (r1, r2) := by first | (rw [hy135]; with_reducible exact H) | (have H2_ := (Option.bind_some _ _).symm.trans H; rw [hy135]; with_reducible exact H2_) | (have H2_ := (Option.bind_some _ _).symm.trans H; with_reducible exact H2_) | with_reducible exact H | (rw [hy135]; exact H) | exact H
                            have Ny135 := Aside0.mk hy135
                            clear hy135
                            replace H := Option.bind_eq_some_iff.mp H
                            obtain ⟨t138, A300, H⟩ := H
                            replace H : (rowcode_Encode.l1 k2 t138 l0 (l0.length : Int) (wrap64 (x49_2 + 1))) = some (r1, r2) := H
                            have A30 := Aside0.mk A300
                            clear A300
                            have H' := Aside0.mk H
                            clear H
                            have p130 : 0 ≤ (x49_2 : Int) := of_decide_eq_true (by first | (with_reducible assumption) | assumption)
                            have q130 : x49_2 < (l0.length : Int) := of_decide_eq_true (by first | (with_reducible assumption) | assumption)
                            obtain ⟨ad130, e130, hx130_0, hx130_1, hx130_2, hx130_3⟩ := at_T40 HR0.out x49_2 p130 q130
                            cases e130
                            replace hx130_0 := (HB.out.cell (World.block_lt_of_cell? w _ hx130_0)).trans hx130_0
                            replace hx130_1 := (HB.out.cell (World.block_lt_of_cell? w _ hx130_1)).trans hx130_1
                            replace hx130_2 := (HB.out.cell (World.block_lt_of_cell? w _ hx130_2)).trans hx130_2
                            replace hx130_3 := (HB.out.cell (World.block_lt_of_cell? w _ hx130_3)).trans hx130_3
                            replace p130 := eq_true p130
                            replace q130 := eq_true q130
                            go_wp2_with (first | ((with_reducible refine gate_dst (N := 10) rfl ?_); (try (refine gate_guard (by rfl) ?_; dsimp only)); refine box_event ?hg (N := 10) ?hd (cs := #[.int .i64 0, .int .i64 0, .string (⟨#[]⟩ : ByteArray), .bool false]) (t := 40) ?hr ?_; (case hd => rfl); (case hg => rfl); (case hr => first | (go_simp; done) | (go_simp; rfl)); intro gb131 hg w31 hbox hb; have n0_ := Aside0.mk (Kd.R_below (by (with_reducible repeat (first | apply Kd.R_alloc | apply Kd.R_drewN | apply Kd.R_drew)); exact HO_8.out) hb); have n1_ := Aside0.mk (below_step (by repeat (first | (with_reducible first | exact HB.out | apply below_alloc | apply pw_below_drewN | apply below_drew1) | exact HB.out)) hb); have n2_ := Aside0.mk (hbox); have n3_ := Aside0.mk ((by rw [hg]; exact (below_size (by repeat (first | (with_reducible first | exact HB.out | apply below_alloc | apply pw_below_drewN | apply below_drew1) | exact HB.out))) : w.heap.size ≤ gb131)); have n4_ := Aside0.mk ((by rw [hg]; exact (below_size (by repeat (first | (with_reducible first | exact HB.out | apply below_alloc | apply pw_below_drewN | apply below_drew1) | exact HB.out))) : w.heap.size ≤ gb131)); clear HO_8; clear HB; have HO_8 := n0_; have HB := n1_; have BK131 := n2_; have GW131 := n3_; have GE131 := n4_; clear n0_ n1_ n2_ n3_ n4_; clear hb hbox hg; have hcz32_0 : w31.cell? ⟨gb131, 0, none⟩ = some (.int .i64 0) := (blk_cell BK131.out 0).trans rfl; have hcz32_1 : w31.cell? ⟨gb131, 1, none⟩ = some (.int .i64 0) := (blk_cell BK131.out 1).trans rfl; have hcz32_2 : w31.cell? ⟨gb131, 2, none⟩ = some (.string (⟨#[]⟩ : ByteArray)) := (blk_cell BK131.out 2).trans rfl; have hcz32_3 : w31.cell? ⟨gb131, 3, none⟩ = some (.bool false) := (blk_cell BK131.out 3).trans rfl; have hfz32_0 := blk_frozen BK131.out 0; have hfz32_1 := blk_frozen BK131.out 1; have hfz32_2 := blk_frozen BK131.out 2; have hfz32_3 := blk_frozen BK131.out 3) | ((with_reducible refine gate_builtin (b := .append) (xs := #[.tmp 62, .tmp 63]) rfl ?_); (try (refine gate_guard (by rfl) ?_; dsimp only)); at_builtin; refine Kd.R_append (Kd.int .u8) (w0 := w) w.heap.size rfl (.tmp 62) (.tmp 63) 25 5 (.int .u8 0) 1 rfl Try.underlying25 info5 rfl (by decide) (by omega) u8 x8_2 1 [.int .u8 1] (fun _ => True) (fun _ => False) rfl (by first | (go_simp; done) | (go_simp; rfl)) ?aP (fun _ hk => hk.elim) ?aF ?aO ?aB ?aS ?aL ?_; (case aP => exact rfl); (case aB => exact (by repeat (first | (with_reducible first | exact HB.out | apply below_alloc | apply pw_below_drewN | apply below_drew1 | refine below_set ?_ GE131.out) | exact HB.out))); (case aF => exact (fun _ _ => trivial)); (case aO => exact (by (with_reducible repeat (first | apply Kd.R_alloc | apply Kd.R_drewN | apply Kd.R_drew)); exact Kd.R_mono (Kd.R_far (p := ⟨gb131, 3, none⟩) (Kd.R_far (p := ⟨gb131, 2, none⟩) (Kd.R_far (p := ⟨gb131, 1, none⟩) (Kd.R_far (p := ⟨gb131, 0, none⟩) (Kd.R_types HO_8.out BK131.out (by decide)) (fun _ hk => hk.2) (.int .i64 ((rd_T40 l0 x49_2).f0))) (fun _ hk => hk.2) (.int .i64 ((rd_T40 l0 x49_2).f1))) (fun _ hk => hk.2) (.string ((rd_T40 l0 x49_2).f2))) (fun _ hk => hk.2) (.bool ((rd_T40 l0 x49_2).f3))) (fun _ hk => trivial))); (case aS => exact (below_size (by repeat (first | (with_reducible first | exact HB.out | apply below_alloc | apply pw_below_drewN | apply below_drew1 | refine below_set ?_ GE131.out) | exact HB.out)))); (case aL => have := LMc29.out; omega); intro v136 w33 ho hb hg hat; rw [← Ny135.out] at ho; have n0_ := Aside0.mk (blk_grown (g := gb131) (o := .cells #[.int .i64 ((rd_T40 l0 x49_2).f0), .int .i64 ((rd_T40 l0 x49_2).f1), .string ((rd_T40 l0 x49_2).f2), .bool ((rd_T40 l0 x49_2).f3)] 40 (0, 0)) (by (with_reducible repeat (first | refine blk_drewN ?_ _ | refine blk_drew ?_ | refine blk_alloc ?_ _)); refine blk_put (cs := #[.int .i64 ((rd_T40 l0 x49_2).f0), .int .i64 ((rd_T40 l0 x49_2).f1), .string ((rd_T40 l0 x49_2).f2), .bool false]) ?_ 3 _ rfl; (with_reducible repeat (first | refine blk_drewN ?_ _ | refine blk_drew ?_ | refine blk_alloc ?_ _)); refine blk_put (cs := #[.int .i64 ((rd_T40 l0 x49_2).f0), .int .i64 ((rd_T40 l0 x49_2).f1), .string (⟨#[]⟩ : ByteArray), .bool false]) ?_ 2 _ rfl; (with_reducible repeat (first | refine blk_drewN ?_ _ | refine blk_drew ?_ | refine blk_alloc ?_ _)); refine blk_put (cs := #[.int .i64 ((rd_T40 l0 x49_2).f0), .int .i64 0, .string (⟨#[]⟩ : ByteArray), .bool false]) ?_ 1 _ rfl; (with_reducible repeat (first | refine blk_drewN ?_ _ | refine blk_drew ?_ | refine blk_alloc ?_ _)); refine blk_put (cs := #[.int .i64 0, .int .i64 0, .string (⟨#[]⟩ : ByteArray), .bool false]) ?_ 0 _ rfl; (with_reducible repeat (first | refine blk_drewN ?_ _ | refine blk_drew ?_ | refine blk_alloc ?_ _)); exact BK131.out) hg (Kd.R_ne HO_8.out BK131.out (by decide))); have n1_ := Aside0.mk (hb); have n2_ := Aside0.mk (ho); clear BK131; clear HB; clear HO_8; have BK131 := n0_; have HB := n1_; have HO137 := n2_; clear n0_ n1_ n2_; clear ho hb hg hat; have hcz34_0 : w33.cell? ⟨gb131, 0, none⟩ = some (.int .i64 ((rd_T40 l0 x49_2).f0)) := (blk_cell BK131.out 0).trans rfl; have hcz34_1 : w33.cell? ⟨gb131, 1, none⟩ = some (.int .i64 ((rd_T40 l0 x49_2).f1)) := (blk_cell BK131.out 1).trans rfl; have hcz34_2 : w33.cell? ⟨gb131, 2, none⟩ = some (.string ((rd_T40 l0 x49_2).f2)) := (blk_cell BK131.out 2).trans rfl; have hcz34_3 : w33.cell? ⟨gb131, 3, none⟩ = some (.bool ((rd_T40 l0 x49_2).f3)) := (blk_cell BK131.out 3).trans rfl; have hfz34_0 := blk_frozen BK131.out 0; have hfz34_1 := blk_frozen BK131.out 1; have hfz34_2 := blk_frozen BK131.out 2; have hfz34_3 := blk_frozen BK131.out 3; obtain ⟨Ao35, co35, eo35⟩ := Kd.R_slice HO137.out; subst eo35) | ((with_reducible refine gate_callee (f := 18) rfl ?_); refine goesL_ (some 69) rfl rfl Try.func18 (by kernel_rfl) rfl #[.slice Ao35 y135.length co35, .int .u64 (IntKind.u64.wrap ((rd_T40 l0 x49_2).f1)), .int .i64 8] rfl (by (try simp only [List.map_toArray, List.map_cons, List.map_nil]); first | done | rfl | (simp only [List.length_drop, List.length_take]; rfl)) ?_; (with_reducible refine (octets_Append.calls (fun k_ => some k_ = (.slice Ao35 y135.length co35 : Value).ownBlock) (.slice Ao35 y135.length co35) y135 (IntKind.u64.wrap ((rd_T40 l0 x49_2).f1)) 8 t138 w _ ?side1 ?side2 A30.out).mono ?_); (case side1 => repeat (first | (with_reducible first | exact HB.out | apply below_alloc | apply pw_below_drewN | apply below_drew1 | refine below_set ?_ GE131.out) | exact HB.out)); (case side2 => exact Kd.R_tight rfl HO137.out); rintro e w36 ⟨v139, rfl, ho0, hb, hkp⟩; refine ⟨_, rfl, ?_⟩; have n0_ := Aside0.mk (blk_kept (by (with_reducible repeat (first | refine blk_drewN ?_ _ | refine blk_drew ?_ | refine blk_alloc ?_ _)); exact BK131.out) hkp (fun hs_ => (fun e_ => (Kd.R_ne HO137.out BK131.out (by decide)) e_) hs_)); have n1_ := Aside0.mk (Kd.R_mono (ok' := fun k_ => True) ho0 (fun k_ hk_ => trivial)); have n2_ := Aside0.mk (hb); clear BK131; clear HB; clear HO137; have BK131 := n0_; have HO140 := n1_; have HB := n2_; clear n0_ n1_ n2_; (try clear hb); (try clear hkp); (try clear ho0)))
                            go_roundg k2
                            case measure => have := HK1.out; have := HK2.out; omega
                            case rel => exact ⟨(t138), (wrap64 (x49_2 + 1)), (by first | rfl | (simp; done) | (simp [*]; done)), H', ⟨by have := HK1.out; have := HK2.out; omega⟩, ⟨by (with_reducible repeat (first | apply Kd.R_alloc | apply Kd.R_drewN | apply Kd.R_drew)); exact HO140.out⟩, ⟨by repeat (first | (with_reducible first | exact HB.out | apply below_alloc | apply pw_below_drewN | apply below_drew1 | refine below_set ?_ GE131.out) | exact HB.out)⟩⟩
                          · rw [if_neg c29] at H
                            exact absurd H (by simp)
                        · rw [if_neg c28] at H
                          have c28b0 : (((rd_T40 l0 x49_2).f0) == 1) = false := beq_eq_false_iff_ne.mpr c28
                          have c28b1 : (((rd_T40 l0 x49_2).f0) != 1) = true := bne_iff_ne.mpr c28
                          by_cases c37 : ((rd_T40 l0 x49_2).f0) = 2
                          · rw [if_pos c37] at H
                            have c37b0 : (((rd_T40 l0 x49_2).f0) == 2) = true := beq_iff_eq.mpr c37
                            have c37b1 : (((rd_T40 l0 x49_2).f0) != 2) = false := bne_eq_false_iff_eq.mpr c37
                            clear c37
                            by_cases c38 : x8_2.length < 140737488355328
                            · rw [if_pos c38] at H
                              have LMc38 := Aside0.mk c38
                              clear c38
                              obtain ⟨y141, hy141⟩ : ∃ y_ : List Int, y_ = (x8_2 ++ [2]) := ⟨_, rfl⟩
                              replace H : ((octets_Append.f y141 (IntKind.u64.wrap ((((rd_T40 l0 x49_2).f2).size : Int))) 2).bind fun t144 => (if t144.length + ((rd_T40 l0 x49_2).f2).size < 140737488355328 then (rowcode_Encode.l1 k2 (t144 ++ bytesOf ((rd_T40 l0 x49_2).f2)) l0 (l0.length : Int) (wrap64 (x49_2 + 1))) else (none))) = some (r1, r2) := by first | (rw [hy141]; with_reducible exact H) | (have H2_ := (Option.bind_some _ _).symm.trans H; rw [hy141]; with_reducible exact H2_) | (have H2_ := (Option.bind_some _ _).symm.trans H; with_reducible exact H2_) | with_reducible exact H | (rw [hy141]; exact H) | exact H
                              have Ny141 := Aside0.mk hy141
                              clear hy141
                              replace H := Option.bind_eq_some_iff.mp H
                              obtain ⟨t144, A390, H⟩ := H
                              replace H : (if t144.length + ((rd_T40 l0 x49_2).f2).size < 140737488355328 then (rowcode_Encode.l1 k2 (t144 ++ bytesOf ((rd_T40 l0 x49_2).f2)) l0 (l0.length : Int) (wrap64 (x49_2 + 1))) else (none)) = some (r1, r2) := H
                              have A39 := Aside0.mk A390
                              clear A390
                              by_cases c40 : t144.length + ((rd_T40 l0 x49_2).f2).size < 140737488355328
                              · rw [if_pos c40] at H
                                have LMc40 := Aside0.mk c40
                                clear c40
                                obtain ⟨y147, hy147⟩ : ∃ y_ : List Int, y_ = (t144 ++ bytesOf ((rd_T40 l0 x49_2).f2)) := ⟨_, rfl⟩
                                replace H : (rowcode_Encode.l1 k2 y147 l0 (l0.length : Int) (wrap64 (x49_2 + 1))) = some (r1, r2) := by first | (rw [hy147]; with_reducible exact H) | (have H2_ := (Option.bind_some _ _).symm.trans H; rw [hy147]; with_reducible exact H2_) | (have H2_ := (Option.bind_some _ _).symm.trans H; with_reducible exact H2_) | with_reducible exact H | (rw [hy147]; exact H) | exact H
                                have Ny147 := Aside0.mk hy147
                                clear hy147
                                have H' := Aside0.mk H
                                clear H
                                have p130 : 0 ≤ (x49_2 : Int) := of_decide_eq_true (by first | (with_reducible assumption) | assumption)
                                have q130 : x49_2 < (l0.length : Int) := of_decide_eq_true (by first | (with_reducible assumption) | assumption)
                                obtain ⟨ad130, e130, hx130_0, hx130_1, hx130_2, hx130_3⟩ := at_T40 HR0.out x49_2 p130 q130
                                cases e130
                                replace hx130_0 := (HB.out.cell (World.block_lt_of_cell? w _ hx130_0)).trans hx130_0
                                replace hx130_1 := (HB.out.cell (World.block_lt_of_cell? w _ hx130_1)).trans hx130_1
                                replace hx130_2 := (HB.out.cell (World.block_lt_of_cell? w _ hx130_2)).trans hx130_2
                                replace hx130_3 := (HB.out.cell (World.block_lt_of_cell? w _ hx130_3)).trans hx130_3
                                replace p130 := eq_true p130
                                replace q130 := eq_true q130
                                go_wp2_with (first | ((with_reducible refine gate_dst (N := 10) rfl ?_); (try (refine gate_guard (by rfl) ?_; dsimp only)); refine box_event ?hg (N := 10) ?hd (cs := #[.int .i64 0, .int .i64 0, .string (⟨#[]⟩ : ByteArray), .bool false]) (t := 40) ?hr ?_; (case hd => rfl); (case hg => rfl); (case hr => first | (go_simp; done) | (go_simp; rfl)); intro gb131 hg w41 hbox hb; have n0_ := Aside0.mk (Kd.R_below (by (with_reducible repeat (first | apply Kd.R_alloc | apply Kd.R_drewN | apply Kd.R_drew)); exact HO_8.out) hb); have n1_ := Aside0.mk (below_step (by repeat (first | (with_reducible first | exact HB.out | apply below_alloc | apply pw_below_drewN | apply below_drew1) | exact HB.out)) hb); have n2_ := Aside0.mk (hbox); have n3_ := Aside0.mk ((by rw [hg]; exact (below_size (by repeat (first | (with_reducible first | exact HB.out | apply below_alloc | apply pw_below_drewN | apply below_drew1) | exact HB.out))) : w.heap.size ≤ gb131)); have n4_ := Aside0.mk ((by rw [hg]; exact (below_size (by repeat (first | (with_reducible first | exact HB.out | apply below_alloc | apply pw_below_drewN | apply below_drew1) | exact HB.out))) : w.heap.size ≤ gb131)); clear HO_8; clear HB; have HO_8 := n0_; have HB := n1_; have BK131 := n2_; have GW131 := n3_; have GE131 := n4_; clear n0_ n1_ n2_ n3_ n4_; clear hb hbox hg; have hcz42_0 : w41.cell? ⟨gb131, 0, none⟩ = some (.int .i64 0) := (blk_cell BK131.out 0).trans rfl; have hcz42_1 : w41.cell? ⟨gb131, 1, none⟩ = some (.int .i64 0) := (blk_cell BK131.out 1).trans rfl; have hcz42_2 : w41.cell? ⟨gb131, 2, none⟩ = some (.string (⟨#[]⟩ : ByteArray)) := (blk_cell BK131.out 2).trans rfl; have hcz42_3 : w41.cell? ⟨gb131, 3, none⟩ = some (.bool false) := (blk_cell BK131.out 3).trans rfl; have hfz42_0 := blk_frozen BK131.out 0; have hfz42_1 := blk_frozen BK131.out 1; have hfz42_2 := blk_frozen BK131.out 2; have hfz42_3 := blk_frozen BK131.out 3) | ((with_reducible refine gate_builtin (b := .append) (xs := #[.tmp 72, .tmp 73]) rfl ?_); (try (refine gate_guard (by rfl) ?_; dsimp only)); at_builtin; refine Kd.R_append (Kd.int .u8) (w0 := w) w.heap.size rfl (.tmp 72) (.tmp 73) 25 5 (.int .u8 0) 1 rfl Try.underlying25 info5 rfl (by decide) (by omega) u8 x8_2 2 [.int .u8 2] (fun _ => True) (fun _ => False) rfl (by first | (go_simp; done) | (go_simp; rfl)) ?aP (fun _ hk => hk.elim) ?aF ?aO ?aB ?aS ?aL ?_; (case aP => exact rfl); (case aB => exact (by repeat (first | (with_reducible first | exact HB.out | apply below_alloc | apply pw_below_drewN | apply below_drew1 | refine below_set ?_ GE131.out) | exact HB.out))); (case aF => exact (fun _ _ => trivial)); (case aO => exact (by (with_reducible repeat (first | apply Kd.R_alloc | apply Kd.R_drewN | apply Kd.R_drew)); exact Kd.R_mono (Kd.R_far (p := ⟨gb131, 3, none⟩) (Kd.R_far (p := ⟨gb131, 2, none⟩) (Kd.R_far (p := ⟨gb131, 1, none⟩) (Kd.R_far (p := ⟨gb131, 0, none⟩) (Kd.R_types HO_8.out BK131.out (by decide)) (fun _ hk => hk.2) (.int .i64 ((rd_T40 l0 x49_2).f0))) (fun _ hk => hk.2) (.int .i64 ((rd_T40 l0 x49_2).f1))) (fun _ hk => hk.2) (.string ((rd_T40 l0 x49_2).f2))) (fun _ hk => hk.2) (.bool ((rd_T40 l0 x49_2).f3))) (fun _ hk => trivial))); (case aS => exact (below_size (by repeat (first | (with_reducible first | exact HB.out | apply below_alloc | apply pw_below_drewN | apply below_drew1 | refine below_set ?_ GE131.out) | exact HB.out)))); (case aL => have := LMc38.out; omega); intro v142 w43 ho hb hg hat; rw [← Ny141.out] at ho; have n0_ := Aside0.mk (blk_grown (g := gb131) (o := .cells #[.int .i64 ((rd_T40 l0 x49_2).f0), .int .i64 ((rd_T40 l0 x49_2).f1), .string ((rd_T40 l0 x49_2).f2), .bool ((rd_T40 l0 x49_2).f3)] 40 (0, 0)) (by (with_reducible repeat (first | refine blk_drewN ?_ _ | refine blk_drew ?_ | refine blk_alloc ?_ _)); refine blk_put (cs := #[.int .i64 ((rd_T40 l0 x49_2).f0), .int .i64 ((rd_T40 l0 x49_2).f1), .string ((rd_T40 l0 x49_2).f2), .bool false]) ?_ 3 _ rfl; (with_reducible repeat (first | refine blk_drewN ?_ _ | refine blk_drew ?_ | refine blk_alloc ?_ _)); refine blk_put (cs := #[.int .i64 ((rd_T40 l0 x49_2).f0), .int .i64 ((rd_T40 l0 x49_2).f1), .string (⟨#[]⟩ : ByteArray), .bool false]) ?_ 2 _ rfl; (with_reducible repeat (first | refine blk_drewN ?_ _ | refine blk_drew ?_ | refine blk_alloc ?_ _)); refine blk_put (cs := #[.int .i64 ((rd_T40 l0 x49_2).f0), .int .i64 0, .string (⟨#[]⟩ : ByteArray), .bool false]) ?_ 1 _ rfl; (with_reducible repeat (first | refine blk_drewN ?_ _ | refine blk_drew ?_ | refine blk_alloc ?_ _)); refine blk_put (cs := #[.int .i64 0, .int .i64 0, .string (⟨#[]⟩ : ByteArray), .bool false]) ?_ 0 _ rfl; (with_reducible repeat (first | refine blk_drewN ?_ _ | refine blk_drew ?_ | refine blk_alloc ?_ _)); exact BK131.out) hg (Kd.R_ne HO_8.out BK131.out (by decide))); have n1_ := Aside0.mk (hb); have n2_ := Aside0.mk (ho); clear BK131; clear HB; clear HO_8; have BK131 := n0_; have HB := n1_; have HO143 := n2_; clear n0_ n1_ n2_; clear ho hb hg hat; have hcz44_0 : w43.cell? ⟨gb131, 0, none⟩ = some (.int .i64 ((rd_T40 l0 x49_2).f0)) := (blk_cell BK131.out 0).trans rfl; have hcz44_1 : w43.cell? ⟨gb131, 1, none⟩ = some (.int .i64 ((rd_T40 l0 x49_2).f1)) := (blk_cell BK131.out 1).trans rfl; have hcz44_2 : w43.cell? ⟨gb131, 2, none⟩ = some (.string ((rd_T40 l0 x49_2).f2)) := (blk_cell BK131.out 2).trans rfl; have hcz44_3 : w43.cell? ⟨gb131, 3, none⟩ = some (.bool ((rd_T40 l0 x49_2).f3)) := (blk_cell BK131.out 3).trans rfl; have hfz44_0 := blk_frozen BK131.out 0; have hfz44_1 := blk_frozen BK131.out 1; have hfz44_2 := blk_frozen BK131.out 2; have hfz44_3 := blk_frozen BK131.out 3; obtain ⟨Ao45, co45, eo45⟩ := Kd.R_slice HO143.out; subst eo45) | ((with_reducible refine gate_callee (f := 18) rfl ?_); refine goesL_ (some 80) rfl rfl Try.func18 (by kernel_rfl) rfl #[.slice Ao45 y141.length co45, .int .u64 (IntKind.u64.wrap ((((rd_T40 l0 x49_2).f2).size : Int))), .int .i64 2] rfl (by (try simp only [List.map_toArray, List.map_cons, List.map_nil]); first | done | rfl | (simp only [List.length_drop, List.length_take]; rfl)) ?_; (with_reducible refine (octets_Append.calls (fun k_ => some k_ = (.slice Ao45 y141.length co45 : Value).ownBlock) (.slice Ao45 y141.length co45) y141 (IntKind.u64.wrap ((((rd_T40 l0 x49_2).f2).size : Int))) 2 t144 w _ ?side1 ?side2 A39.out).mono ?_); (case side1 => repeat (first | (with_reducible first | exact HB.out | apply below_alloc | apply pw_below_drewN | apply below_drew1 | refine below_set ?_ GE131.out) | exact HB.out)); (case side2 => exact Kd.R_tight rfl HO143.out); rintro e w46 ⟨v145, rfl, ho0, hb, hkp⟩; refine ⟨_, rfl, ?_⟩; have n0_ := Aside0.mk (blk_kept (by (with_reducible repeat (first | refine blk_drewN ?_ _ | refine blk_drew ?_ | refine blk_alloc ?_ _)); exact BK131.out) hkp (fun hs_ => (fun e_ => (Kd.R_ne HO143.out BK131.out (by decide)) e_) hs_)); have n1_ := Aside0.mk (Kd.R_mono (ok' := fun k_ => True) ho0 (fun k_ hk_ => trivial)); have n2_ := Aside0.mk (hb); clear BK131; clear HB; clear HO143; have BK131 := n0_; have HO146 := n1_; have HB := n2_; clear n0_ n1_ n2_; (try clear hb); (try clear hkp); (try clear ho0); have hcz47_0 : w46.cell? ⟨gb131, 0, none⟩ = some (.int .i64 ((rd_T40 l0 x49_2).f0)) := (blk_cell BK131.out 0).trans rfl; have hcz47_1 : w46.cell? ⟨gb131, 1, none⟩ = some (.int .i64 ((rd_T40 l0 x49_2).f1)) := (blk_cell BK131.out 1).trans rfl; have hcz47_2 : w46.cell? ⟨gb131, 2, none⟩ = some (.string ((rd_T40 l0 x49_2).f2)) := (blk_cell BK131.out 2).trans rfl; have hcz47_3 : w46.cell? ⟨gb131, 3, none⟩ = some (.bool ((rd_T40 l0 x49_2).f3)) := (blk_cell BK131.out 3).trans rfl; have hfz47_0 := blk_frozen BK131.out 0; have hfz47_1 := blk_frozen BK131.out 1; have hfz47_2 := blk_frozen BK131.out 2; have hfz47_3 := blk_frozen BK131.out 3) | (at_builtin; refine print_append_str (w0 := w) w.heap.size rfl (.tmp 81) _ 25 9 5 rfl Try.underlying25 Try.underlying9 info5 v145 t144 ((rd_T40 l0 x49_2).f2) rfl rfl ?aO ?aB ?aS ?aL ?_; (case aB => exact (by repeat (first | (with_reducible first | exact HB.out | apply below_alloc | apply pw_below_drewN | apply below_drew1 | refine below_set ?_ GE131.out) | exact HB.out))); (case aO => exact (Kd.own_of_R (by (with_reducible repeat (first | apply Kd.R_alloc | apply Kd.R_drewN | apply Kd.R_drew)); exact HO146.out))); (case aS => exact (below_size (by repeat (first | (with_reducible first | exact HB.out | apply below_alloc | apply pw_below_drewN | apply below_drew1 | refine below_set ?_ GE131.out) | exact HB.out)))); (case aL => have := LMc40.out; omega); intro v148 w48 ho0 hb hg; have ho := Kd.R_of_own (h1 := fun _ => rfl) (ok := fun _ => True) ho0 (fun _ _ => trivial); clear ho0; have hat := True.intro; rw [← Ny147.out] at ho; change Kd.R (Kd.int .u8) 5 w48 w.heap.size (fun _ => True) v148 y147 at ho; have n0_ := Aside0.mk (blk_grown (g := gb131) (o := .cells #[.int .i64 ((rd_T40 l0 x49_2).f0), .int .i64 ((rd_T40 l0 x49_2).f1), .string ((rd_T40 l0 x49_2).f2), .bool ((rd_T40 l0 x49_2).f3)] 40 (0, 0)) (by (with_reducible repeat (first | refine blk_drewN ?_ _ | refine blk_drew ?_ | refine blk_alloc ?_ _)); exact BK131.out) hg (Kd.R_ne HO146.out BK131.out (by decide))); have n1_ := Aside0.mk (hb); have n2_ := Aside0.mk (ho); clear BK131; clear HB; clear HO146; have BK131 := n0_; have HB := n1_; have HO149 := n2_; clear n0_ n1_ n2_; clear ho hb hg hat))
                                go_roundg k2
                                case measure => have := HK1.out; have := HK2.out; omega
                                case rel => exact ⟨(y147), (wrap64 (x49_2 + 1)), (by first | rfl | (simp; done) | (simp [*]; done)), H', ⟨by have := HK1.out; have := HK2.out; omega⟩, ⟨by (with_reducible repeat (first | apply Kd.R_alloc | apply Kd.R_drewN | apply Kd.R_drew)); exact HO149.out⟩, ⟨by repeat (first | (with_reducible first | exact HB.out | apply below_alloc | apply pw_below_drewN | apply below_drew1 | refine below_set ?_ GE131.out) | exact HB.out)⟩⟩
                              · rw [if_neg c40] at H
                                exact absurd H (by simp)
                            · rw [if_neg c38] at H
                              exact absurd H (by simp)
                          · rw [if_neg c37] at H
                            have c37b0 : (((rd_T40 l0 x49_2).f0) == 2) = false := beq_eq_false_iff_ne.mpr c37
                            have c37b1 : (((rd_T40 l0 x49_2).f0) != 2) = true := bne_iff_ne.mpr c37
                            by_cases c49 : ((rd_T40 l0 x49_2).f0) = 3
                            · rw [if_pos c49] at H
                              have c49b0 : (((rd_T40 l0 x49_2).f0) == 3) = true := beq_iff_eq.mpr c49
                              have c49b1 : (((rd_T40 l0 x49_2).f0) != 3) = false := bne_eq_false_iff_eq.mpr c49
                              clear c49
                              by_cases c50 : x8_2.length < 140737488355328
                              · rw [if_pos c50] at H
                                have LMc50 := Aside0.mk c50
                                clear c50
                                obtain ⟨y150, hy150⟩ : ∃ y_ : List Int, y_ = (x8_2 ++ [3]) := ⟨_, rfl⟩
                                replace H : (if (rd_T40 l0 x49_2).f3 = true then (if 0 ≤ (wrap64 ((y150.length : Int) - 1)) then (if (wrap64 ((y150.length : Int) - 1)) < (y150.length : Int) then (rowcode_Encode.l1 k2 (y150.set ((wrap64 ((y150.length : Int) - 1)) : Int).toNat 4) l0 (l0.length : Int) (wrap64 (x49_2 + 1))) else (none)) else (none)) else (rowcode_Encode.l1 k2 y150 l0 (l0.length : Int) (wrap64 (x49_2 + 1)))) = some (r1, r2) := by first | (rw [hy150]; with_reducible exact H) | (have H2_ := (Option.bind_some _ _).symm.trans H; rw [hy150]; with_reducible exact H2_) | (have H2_ := (Option.bind_some _ _).symm.trans H; with_reducible exact H2_) | with_reducible exact H | (rw [hy150]; exact H) | exact H
                                have Ny150 := Aside0.mk hy150
                                clear hy150
                                obtain ⟨bq51, hbq51⟩ : ∃ b_ : Bool, b_ = ((rd_T40 l0 x49_2).f3) := ⟨_, rfl⟩
                                replace H : (if bq51 = true then (if 0 ≤ (wrap64 ((y150.length : Int) - 1)) then (if (wrap64 ((y150.length : Int) - 1)) < (y150.length : Int) then (rowcode_Encode.l1 k2 (y150.set ((wrap64 ((y150.length : Int) - 1)) : Int).toNat 4) l0 (l0.length : Int) (wrap64 (x49_2 + 1))) else (none)) else (none)) else (rowcode_Encode.l1 k2 y150 l0 (l0.length : Int) (wrap64 (x49_2 + 1)))) = some (r1, r2) := by rw [← hbq51] at H; exact H
                                have Nbq51 := Aside0.mk hbq51
                                clear hbq51
                                by_cases c52 : bq51 = true
                                · subst c52
                                  have H1 : (if 0 ≤ (wrap64 ((y150.length : Int) - 1)) then (if (wrap64 ((y150.length : Int) - 1)) < (y150.length : Int) then (rowcode_Encode.l1 k2 (y150.set ((wrap64 ((y150.length : Int) - 1)) : Int).toNat 4) l0 (l0.length : Int) (wrap64 (x49_2 + 1))) else (none)) else (none)) = some (r1, r2) := by rw [if_pos rfl] at H; exact H
                                  clear H
                                  have H := H1
                                  clear H1
                                  obtain ⟨ji53, hji53⟩ : ∃ j_ : Int, (wrap64 ((y150.length : Int) - 1)) = j_ := ⟨_, rfl⟩
                                  replace H : (if 0 ≤ (ji53) then (if (ji53) < (y150.length : Int) then (rowcode_Encode.l1 k2 (y150.set ((ji53) : Int).toNat 4) l0 (l0.length : Int) (wrap64 (x49_2 + 1))) else (none)) else (none)) = some (r1, r2) := by first | (rw [hji53] at H; exact H) | (simp only [hji53] at H ⊢; exact H)
                                  have hji53w : (IntKind.i64.wrap ((y150.length : Int) - 1)) = ji53 := (i64_w _).trans hji53
                                  by_cases c54 : 0 ≤ (ji53)
                                  · rw [if_pos c54] at H
                                    have c54b0 : decide (0 ≤ (ji53)) = true := decide_eq_true c54
                                    clear c54
                                    by_cases c55 : (ji53) < (y150.length : Int)
                                    · rw [if_pos c55] at H
                                      have c55b0 : decide ((ji53) < (y150.length : Int)) = true := decide_eq_true c55
                                      clear c55
                                      obtain ⟨y153, hy153⟩ : ∃ y_ : List Int, y_ = (y150.set ((ji53) : Int).toNat 4) := ⟨_, rfl⟩
                                      replace H : (rowcode_Encode.l1 k2 y153 l0 (l0.length : Int) (wrap64 (x49_2 + 1))) = some (r1, r2) := by first | (rw [hy153]; with_reducible exact H) | (have H2_ := (Option.bind_some _ _).symm.trans H; rw [hy153]; with_reducible exact H2_) | (have H2_ := (Option.bind_some _ _).symm.trans H; with_reducible exact H2_) | with_reducible exact H | (rw [hy153]; exact H) | exact H
                                      have Ny153 := Aside0.mk hy153
                                      clear hy153
                                      have H' := Aside0.mk H
                                      clear H
                                      have p130 : 0 ≤ (x49_2 : Int) := of_decide_eq_true (by first | (with_reducible assumption) | assumption)
                                      have q130 : x49_2 < (l0.length : Int) := of_decide_eq_true (by first | (with_reducible assumption) | assumption)
                                      obtain ⟨ad130, e130, hx130_0, hx130_1, hx130_2, hx130_3⟩ := at_T40 HR0.out x49_2 p130 q130
                                      (try rw [← Nbq51.out] at hx130_3)
                                      cases e130
                                      replace hx130_0 := (HB.out.cell (World.block_lt_of_cell? w _ hx130_0)).trans hx130_0
                                      replace hx130_1 := (HB.out.cell (World.block_lt_of_cell? w _ hx130_1)).trans hx130_1
                                      replace hx130_2 := (HB.out.cell (World.block_lt_of_cell? w _ hx130_2)).trans hx130_2
                                      replace hx130_3 := (HB.out.cell (World.block_lt_of_cell? w _ hx130_3)).trans hx130_3
                                      replace p130 := eq_true p130
                                      replace q130 := eq_true q130
                                      go_wp2_with (first | ((with_reducible refine gate_dst (N := 10) rfl ?_); (try (refine gate_guard (by rfl) ?_; dsimp only)); refine box_event ?hg (N := 10) ?hd (cs := #[.int .i64 0, .int .i64 0, .string (⟨#[]⟩ : ByteArray), .bool false]) (t := 40) ?hr ?_; (case hd => rfl); (case hg => rfl); (case hr => first | (go_simp; done) | (go_simp; rfl)); intro gb131 hg w57 hbox hb; have n0_ := Aside0.mk (Kd.R_below (by (with_reducible repeat (first | apply Kd.R_alloc | apply Kd.R_drewN | apply Kd.R_drew)); exact HO_8.out) hb); have n1_ := Aside0.mk (below_step (by repeat (first | (with_reducible first | exact HB.out | apply below_alloc | apply pw_below_drewN | apply below_drew1) | exact HB.out)) hb); have n2_ := Aside0.mk (hbox); have n3_ := Aside0.mk ((by rw [hg]; exact (below_size (by repeat (first | (with_reducible first | exact HB.out | apply below_alloc | apply pw_below_drewN | apply below_drew1) | exact HB.out))) : w.heap.size ≤ gb131)); have n4_ := Aside0.mk ((by rw [hg]; exact (below_size (by repeat (first | (with_reducible first | exact HB.out | apply below_alloc | apply pw_below_drewN | apply below_drew1) | exact HB.out))) : w.heap.size ≤ gb131)); clear HO_8; clear HB; have HO_8 := n0_; have HB := n1_; have BK131 := n2_; have GW131 := n3_; have GE131 := n4_; clear n0_ n1_ n2_ n3_ n4_; clear hb hbox hg; have hcz58_0 : w57.cell? ⟨gb131, 0, none⟩ = some (.int .i64 0) := (blk_cell BK131.out 0).trans rfl; have hcz58_1 : w57.cell? ⟨gb131, 1, none⟩ = some (.int .i64 0) := (blk_cell BK131.out 1).trans rfl; have hcz58_2 : w57.cell? ⟨gb131, 2, none⟩ = some (.string (⟨#[]⟩ : ByteArray)) := (blk_cell BK131.out 2).trans rfl; have hcz58_3 : w57.cell? ⟨gb131, 3, none⟩ = some (.bool false) := (blk_cell BK131.out 3).trans rfl; have hfz58_0 := blk_frozen BK131.out 0; have hfz58_1 := blk_frozen BK131.out 1; have hfz58_2 := blk_frozen BK131.out 2; have hfz58_3 := blk_frozen BK131.out 3) | ((with_reducible refine gate_builtin (b := .append) (xs := #[.tmp 87, .tmp 88]) rfl ?_); (try (refine gate_guard (by rfl) ?_; dsimp only)); at_builtin; refine Kd.R_append (Kd.int .u8) (w0 := w) w.heap.size rfl (.tmp 87) (.tmp 88) 25 5 (.int .u8 0) 1 rfl Try.underlying25 info5 rfl (by decide) (by omega) u8 x8_2 3 [.int .u8 3] (fun _ => True) (fun _ => False) rfl (by first | (go_simp; done) | (go_simp; rfl)) ?aP (fun _ hk => hk.elim) ?aF ?aO ?aB ?aS ?aL ?_; (case aP => exact rfl); (case aB => exact (by repeat (first | (with_reducible first | exact HB.out | apply below_alloc | apply pw_below_drewN | apply below_drew1 | refine below_set ?_ GE131.out) | exact HB.out))); (case aF => exact (fun _ _ => trivial)); (case aO => exact (by (with_reducible repeat (first | apply Kd.R_alloc | apply Kd.R_drewN | apply Kd.R_drew)); exact Kd.R_mono (Kd.R_far (p := ⟨gb131, 3, none⟩) (Kd.R_far (p := ⟨gb131, 2, none⟩) (Kd.R_far (p := ⟨gb131, 1, none⟩) (Kd.R_far (p := ⟨gb131, 0, none⟩) (Kd.R_types HO_8.out BK131.out (by decide)) (fun _ hk => hk.2) (.int .i64 ((rd_T40 l0 x49_2).f0))) (fun _ hk => hk.2) (.int .i64 ((rd_T40 l0 x49_2).f1))) (fun _ hk => hk.2) (.string ((rd_T40 l0 x49_2).f2))) (fun _ hk => hk.2) (.bool true)) (fun _ hk => trivial))); (case aS => exact (below_size (by repeat (first | (with_reducible first | exact HB.out | apply below_alloc | apply pw_below_drewN | apply below_drew1 | refine below_set ?_ GE131.out) | exact HB.out)))); (case aL => have := LMc50.out; omega); intro v151 w59 ho hb hg hat; rw [← Ny150.out] at ho; have n0_ := Aside0.mk (blk_grown (g := gb131) (o := .cells #[.int .i64 ((rd_T40 l0 x49_2).f0), .int .i64 ((rd_T40 l0 x49_2).f1), .string ((rd_T40 l0 x49_2).f2), .bool true] 40 (0, 0)) (by (with_reducible repeat (first | refine blk_drewN ?_ _ | refine blk_drew ?_ | refine blk_alloc ?_ _)); refine blk_put (cs := #[.int .i64 ((rd_T40 l0 x49_2).f0), .int .i64 ((rd_T40 l0 x49_2).f1), .string ((rd_T40 l0 x49_2).f2), .bool false]) ?_ 3 _ rfl; (with_reducible repeat (first | refine blk_drewN ?_ _ | refine blk_drew ?_ | refine blk_alloc ?_ _)); refine blk_put (cs := #[.int .i64 ((rd_T40 l0 x49_2).f0), .int .i64 ((rd_T40 l0 x49_2).f1), .string (⟨#[]⟩ : ByteArray), .bool false]) ?_ 2 _ rfl; (with_reducible repeat (first | refine blk_drewN ?_ _ | refine blk_drew ?_ | refine blk_alloc ?_ _)); refine blk_put (cs := #[.int .i64 ((rd_T40 l0 x49_2).f0), .int .i64 0, .string (⟨#[]⟩ : ByteArray), .bool false]) ?_ 1 _ rfl; (with_reducible repeat (first | refine blk_drewN ?_ _ | refine blk_drew ?_ | refine blk_alloc ?_ _)); refine blk_put (cs := #[.int .i64 0, .int .i64 0, .string (⟨#[]⟩ : ByteArray), .bool false]) ?_ 0 _ rfl; (with_reducible repeat (first | refine blk_drewN ?_ _ | refine blk_drew ?_ | refine blk_alloc ?_ _)); exact BK131.out) hg (Kd.R_ne HO_8.out BK131.out (by decide))); have n1_ := Aside0.mk (hb); have n2_ := Aside0.mk (ho); clear BK131; clear HB; clear HO_8; have BK131 := n0_; have HB := n1_; have HO152 := n2_; clear n0_ n1_ n2_; clear ho hb hg hat; have hcz60_0 : w59.cell? ⟨gb131, 0, none⟩ = some (.int .i64 ((rd_T40 l0 x49_2).f0)) := (blk_cell BK131.out 0).trans rfl; have hcz60_1 : w59.cell? ⟨gb131, 1, none⟩ = some (.int .i64 ((rd_T40 l0 x49_2).f1)) := (blk_cell BK131.out 1).trans rfl; have hcz60_2 : w59.cell? ⟨gb131, 2, none⟩ = some (.string ((rd_T40 l0 x49_2).f2)) := (blk_cell BK131.out 2).trans rfl; have hcz60_3 : w59.cell? ⟨gb131, 3, none⟩ = some (.bool true) := (blk_cell BK131.out 3).trans rfl; have hfz60_0 := blk_frozen BK131.out 0; have hfz60_1 := blk_frozen BK131.out 1; have hfz60_2 := blk_frozen BK131.out 2; have hfz60_3 := blk_frozen BK131.out 3; obtain ⟨Ao61, co61, eo61⟩ := Kd.R_slice HO152.out; subst eo61; have p56 : 0 ≤ ((ji53) : Int) := of_decide_eq_true (by first | (with_reducible assumption) | assumption); have q56 : ((ji53) : Int) < ((y150.length : Int) : Int) := of_decide_eq_true (by first | (with_reducible assumption) | assumption); obtain ⟨go56, co56, eo56, gb56, gl56, cl56, HG56⟩ := Kd.R_form HO152.out (by omega); (first | cases eo56 | (injection eo56 with ea_ en_ ec_; (first | subst ea_ | (injection ea_ with ea_; subst ea_)); subst ec_; clear en_)); have GB56 := Aside0.mk gb56; have GG56 := Aside0.mk HG56; clear gb56 gl56 HG56; obtain ⟨hx56_0, hf56_0⟩ := Kd.R_celln 0 HO152.out ((ji53) : Int) p56 q56; replace p56 := eq_true p56; replace q56 := eq_true q56; obtain ⟨hy62_, hz62_⟩ := Kd.R_celln 0 HO152.out ((ji53) : Int) (of_decide_eq_true (by first | (with_reducible assumption) | assumption)) (of_decide_eq_true (by first | (with_reducible assumption) | assumption)); have HP62 := Kd.R_putg HO152.out ((ji53) : Int) 4) | ((with_reducible refine gate_store (t := 5) (p := 96) rfl ?_); refine store_event (t := 5) (p := 96) (v := ?vo_w63) (w1 := (w59.setCell ⟨go56, ((ji53) : Int).toNat, none⟩ (.int .u8 4))) ?hg ?ho ?hn ?hr ?_; (case ho => rfl); (case hg => rfl); (case hn => rfl); (case hr => first | (go_simp; done) | (go_simp; rfl)); intro w63 hw; have hg : w59.grownBy w63 (some go56) := (by rw [hw]; exact HP62.2); have hp_ : Kd.R (Kd.int .u8) 5 w63 w.heap.size (fun _ => True) (.slice (some ⟨go56, 0, none⟩) y150.length co61) y153 := (by rw [hw, Ny153.out]; exact HP62.1); clear HP62; have n0_ := Aside0.mk (blk_grown (g := gb131) (o := .cells #[.int .i64 ((rd_T40 l0 x49_2).f0), .int .i64 ((rd_T40 l0 x49_2).f1), .string ((rd_T40 l0 x49_2).f2), .bool true] 40 (0, 0)) (by (with_reducible repeat (first | refine blk_drewN ?_ _ | refine blk_drew ?_ | refine blk_alloc ?_ _)); exact BK131.out) hg (Kd.R_ne HO152.out BK131.out (by decide))); have n1_ := Aside0.mk (hp_); have n2_ := Aside0.mk ((by rw [hw]; exact below_set (HB.out) GB56.out : Below w.heap.size w w63)); clear BK131; clear HO152; clear HB; have BK131 := n0_; have HO152 := n1_; have HB := n2_; clear n0_ n1_ n2_; clear hg hw hp_))
                                      go_roundg k2
                                      case measure => have := HK1.out; have := HK2.out; omega
                                      case rel => exact ⟨(y153), (wrap64 (x49_2 + 1)), (by first | rfl | (simp; done) | (simp [*]; done)), H', ⟨by have := HK1.out; have := HK2.out; omega⟩, ⟨by (with_reducible repeat (first | apply Kd.R_alloc | apply Kd.R_drewN | apply Kd.R_drew)); exact HO152.out⟩, ⟨by repeat (first | (with_reducible first | exact HB.out | apply below_alloc | apply pw_below_drewN | apply below_drew1 | refine below_set ?_ GE131.out) | exact HB.out)⟩⟩
                                    · rw [if_neg c55] at H
                                      exact absurd H (by simp)
                                  · rw [if_neg c54] at H
                                    exact absurd H (by simp)
                                · replace c52 := Bool.eq_false_iff.mpr c52
                                  subst c52
                                  have H1 : (rowcode_Encode.l1 k2 y150 l0 (l0.length : Int) (wrap64 (x49_2 + 1))) = some (r1, r2) := by rw [if_neg (show ¬ (false = true) by decide)] at H; exact H
                                  clear H
                                  have H := H1
                                  clear H1
                                  have H' := Aside0.mk H
                                  clear H
                                  have p130 : 0 ≤ (x49_2 : Int) := of_decide_eq_true (by first | (with_reducible assumption) | assumption)
                                  have q130 : x49_2 < (l0.length : Int) := of_decide_eq_true (by first | (with_reducible assumption) | assumption)
                                  obtain ⟨ad130, e130, hx130_0, hx130_1, hx130_2, hx130_3⟩ := at_T40 HR0.out x49_2 p130 q130
                                  (try rw [← Nbq51.out] at hx130_3)
                                  cases e130
                                  replace hx130_0 := (HB.out.cell (World.block_lt_of_cell? w _ hx130_0)).trans hx130_0
                                  replace hx130_1 := (HB.out.cell (World.block_lt_of_cell? w _ hx130_1)).trans hx130_1
                                  replace hx130_2 := (HB.out.cell (World.block_lt_of_cell? w _ hx130_2)).trans hx130_2
                                  replace hx130_3 := (HB.out.cell (World.block_lt_of_cell? w _ hx130_3)).trans hx130_3
                                  replace p130 := eq_true p130
                                  replace q130 := eq_true q130
                                  go_wp2_with (first | ((with_reducible refine gate_dst (N := 10) rfl ?_); (try (refine gate_guard (by rfl) ?_; dsimp only)); refine box_event ?hg (N := 10) ?hd (cs := #[.int .i64 0, .int .i64 0, .string (⟨#[]⟩ : ByteArray), .bool false]) (t := 40) ?hr ?_; (case hd => rfl); (case hg => rfl); (case hr => first | (go_simp; done) | (go_simp; rfl)); intro gb131 hg w64 hbox hb; have n0_ := Aside0.mk (Kd.R_below (by (with_reducible repeat (first | apply Kd.R_alloc | apply Kd.R_drewN | apply Kd.R_drew)); exact HO_8.out) hb); have n1_ := Aside0.mk (below_step (by repeat (first | (with_reducible first | exact HB.out | apply below_alloc | apply pw_below_drewN | apply below_drew1) | exact HB.out)) hb); have n2_ := Aside0.mk (hbox); have n3_ := Aside0.mk ((by rw [hg]; exact (below_size (by repeat (first | (with_reducible first | exact HB.out | apply below_alloc | apply pw_below_drewN | apply below_drew1) | exact HB.out))) : w.heap.size ≤ gb131)); have n4_ := Aside0.mk ((by rw [hg]; exact (below_size (by repeat (first | (with_reducible first | exact HB.out | apply below_alloc | apply pw_below_drewN | apply below_drew1) | exact HB.out))) : w.heap.size ≤ gb131)); clear HO_8; clear HB; have HO_8 := n0_; have HB := n1_; have BK131 := n2_; have GW131 := n3_; have GE131 := n4_; clear n0_ n1_ n2_ n3_ n4_; clear hb hbox hg; have hcz65_0 : w64.cell? ⟨gb131, 0, none⟩ = some (.int .i64 0) := (blk_cell BK131.out 0).trans rfl; have hcz65_1 : w64.cell? ⟨gb131, 1, none⟩ = some (.int .i64 0) := (blk_cell BK131.out 1).trans rfl; have hcz65_2 : w64.cell? ⟨gb131, 2, none⟩ = some (.string (⟨#[]⟩ : ByteArray)) := (blk_cell BK131.out 2).trans rfl; have hcz65_3 : w64.cell? ⟨gb131, 3, none⟩ = some (.bool false) := (blk_cell BK131.out 3).trans rfl; have hfz65_0 := blk_frozen BK131.out 0; have hfz65_1 := blk_frozen BK131.out 1; have hfz65_2 := blk_frozen BK131.out 2; have hfz65_3 := blk_frozen BK131.out 3) | ((with_reducible refine gate_builtin (b := .append) (xs := #[.tmp 87, .tmp 88]) rfl ?_); (try (refine gate_guard (by rfl) ?_; dsimp only)); at_builtin; refine Kd.R_append (Kd.int .u8) (w0 := w) w.heap.size rfl (.tmp 87) (.tmp 88) 25 5 (.int .u8 0) 1 rfl Try.underlying25 info5 rfl (by decide) (by omega) u8 x8_2 3 [.int .u8 3] (fun _ => True) (fun _ => False) rfl (by first | (go_simp; done) | (go_simp; rfl)) ?aP (fun _ hk => hk.elim) ?aF ?aO ?aB ?aS ?aL ?_; (case aP => exact rfl); (case aB => exact (by repeat (first | (with_reducible first | exact HB.out | apply below_alloc | apply pw_below_drewN | apply below_drew1 | refine below_set ?_ GE131.out) | exact HB.out))); (case aF => exact (fun _ _ => trivial)); (case aO => exact (by (with_reducible repeat (first | apply Kd.R_alloc | apply Kd.R_drewN | apply Kd.R_drew)); exact Kd.R_mono (Kd.R_far (p := ⟨gb131, 3, none⟩) (Kd.R_far (p := ⟨gb131, 2, none⟩) (Kd.R_far (p := ⟨gb131, 1, none⟩) (Kd.R_far (p := ⟨gb131, 0, none⟩) (Kd.R_types HO_8.out BK131.out (by decide)) (fun _ hk => hk.2) (.int .i64 ((rd_T40 l0 x49_2).f0))) (fun _ hk => hk.2) (.int .i64 ((rd_T40 l0 x49_2).f1))) (fun _ hk => hk.2) (.string ((rd_T40 l0 x49_2).f2))) (fun _ hk => hk.2) (.bool false)) (fun _ hk => trivial))); (case aS => exact (below_size (by repeat (first | (with_reducible first | exact HB.out | apply below_alloc | apply pw_below_drewN | apply below_drew1 | refine below_set ?_ GE131.out) | exact HB.out)))); (case aL => have := LMc50.out; omega); intro v151 w66 ho hb hg hat; rw [← Ny150.out] at ho; have n0_ := Aside0.mk (blk_grown (g := gb131) (o := .cells #[.int .i64 ((rd_T40 l0 x49_2).f0), .int .i64 ((rd_T40 l0 x49_2).f1), .string ((rd_T40 l0 x49_2).f2), .bool false] 40 (0, 0)) (by (with_reducible repeat (first | refine blk_drewN ?_ _ | refine blk_drew ?_ | refine blk_alloc ?_ _)); refine blk_put (cs := #[.int .i64 ((rd_T40 l0 x49_2).f0), .int .i64 ((rd_T40 l0 x49_2).f1), .string ((rd_T40 l0 x49_2).f2), .bool false]) ?_ 3 _ rfl; (with_reducible repeat (first | refine blk_drewN ?_ _ | refine blk_drew ?_ | refine blk_alloc ?_ _)); refine blk_put (cs := #[.int .i64 ((rd_T40 l0 x49_2).f0), .int .i64 ((rd_T40 l0 x49_2).f1), .string (⟨#[]⟩ : ByteArray), .bool false]) ?_ 2 _ rfl; (with_reducible repeat (first | refine blk_drewN ?_ _ | refine blk_drew ?_ | refine blk_alloc ?_ _)); refine blk_put (cs := #[.int .i64 ((rd_T40 l0 x49_2).f0), .int .i64 0, .string (⟨#[]⟩ : ByteArray), .bool false]) ?_ 1 _ rfl; (with_reducible repeat (first | refine blk_drewN ?_ _ | refine blk_drew ?_ | refine blk_alloc ?_ _)); refine blk_put (cs := #[.int .i64 0, .int .i64 0, .string (⟨#[]⟩ : ByteArray), .bool false]) ?_ 0 _ rfl; (with_reducible repeat (first | refine blk_drewN ?_ _ | refine blk_drew ?_ | refine blk_alloc ?_ _)); exact BK131.out) hg (Kd.R_ne HO_8.out BK131.out (by decide))); have n1_ := Aside0.mk (hb); have n2_ := Aside0.mk (ho); clear BK131; clear HB; clear HO_8; have BK131 := n0_; have HB := n1_; have HO152 := n2_; clear n0_ n1_ n2_; clear ho hb hg hat; have hcz67_0 : w66.cell? ⟨gb131, 0, none⟩ = some (.int .i64 ((rd_T40 l0 x49_2).f0)) := (blk_cell BK131.out 0).trans rfl; have hcz67_1 : w66.cell? ⟨gb131, 1, none⟩ = some (.int .i64 ((rd_T40 l0 x49_2).f1)) := (blk_cell BK131.out 1).trans rfl; have hcz67_2 : w66.cell? ⟨gb131, 2, none⟩ = some (.string ((rd_T40 l0 x49_2).f2)) := (blk_cell BK131.out 2).trans rfl; have hcz67_3 : w66.cell? ⟨gb131, 3, none⟩ = some (.bool false) := (blk_cell BK131.out 3).trans rfl; have hfz67_0 := blk_frozen BK131.out 0; have hfz67_1 := blk_frozen BK131.out 1; have hfz67_2 := blk_frozen BK131.out 2; have hfz67_3 := blk_frozen BK131.out 3))
                                  go_roundg k2
                                  case measure => have := HK1.out; have := HK2.out; omega
                                  case rel => exact ⟨(y150), (wrap64 (x49_2 + 1)), (by first | rfl | (simp; done) | (simp [*]; done)), H', ⟨by have := HK1.out; have := HK2.out; omega⟩, ⟨by (with_reducible repeat (first | apply Kd.R_alloc | apply Kd.R_drewN | apply Kd.R_drew)); exact HO152.out⟩, ⟨by repeat (first | (with_reducible first | exact HB.out | apply below_alloc | apply pw_below_drewN | apply below_drew1 | refine below_set ?_ GE131.out) | exact HB.out)⟩⟩
                              · rw [if_neg c50] at H
                                exact absurd H (by simp)
                            · rw [if_neg c49] at H
                              have c49b0 : (((rd_T40 l0 x49_2).f0) == 3) = false := beq_eq_false_iff_ne.mpr c49
                              have c49b1 : (((rd_T40 l0 x49_2).f0) != 3) = true := bne_iff_ne.mpr c49
                              have H' := Aside0.mk H
                              clear H
                              have p130 : 0 ≤ (x49_2 : Int) := of_decide_eq_true (by first | (with_reducible assumption) | assumption)
                              have q130 : x49_2 < (l0.length : Int) := of_decide_eq_true (by first | (with_reducible assumption) | assumption)
                              obtain ⟨ad130, e130, hx130_0, hx130_1, hx130_2, hx130_3⟩ := at_T40 HR0.out x49_2 p130 q130
                              cases e130
                              replace hx130_0 := (HB.out.cell (World.block_lt_of_cell? w _ hx130_0)).trans hx130_0
                              replace hx130_1 := (HB.out.cell (World.block_lt_of_cell? w _ hx130_1)).trans hx130_1
                              replace hx130_2 := (HB.out.cell (World.block_lt_of_cell? w _ hx130_2)).trans hx130_2
                              replace hx130_3 := (HB.out.cell (World.block_lt_of_cell? w _ hx130_3)).trans hx130_3
                              replace p130 := eq_true p130
                              replace q130 := eq_true q130
                              go_wp2_with (first | ((with_reducible refine gate_dst (N := 10) rfl ?_); (try (refine gate_guard (by rfl) ?_; dsimp only)); refine box_event ?hg (N := 10) ?hd (cs := #[.int .i64 0, .int .i64 0, .string (⟨#[]⟩ : ByteArray), .bool false]) (t := 40) ?hr ?_; (case hd => rfl); (case hg => rfl); (case hr => first | (go_simp; done) | (go_simp; rfl)); intro gb131 hg w68 hbox hb; have n0_ := Aside0.mk (Kd.R_below (by (with_reducible repeat (first | apply Kd.R_alloc | apply Kd.R_drewN | apply Kd.R_drew)); exact HO_8.out) hb); have n1_ := Aside0.mk (below_step (by repeat (first | (with_reducible first | exact HB.out | apply below_alloc | apply pw_below_drewN | apply below_drew1) | exact HB.out)) hb); have n2_ := Aside0.mk (hbox); have n3_ := Aside0.mk ((by rw [hg]; exact (below_size (by repeat (first | (with_reducible first | exact HB.out | apply below_alloc | apply pw_below_drewN | apply below_drew1) | exact HB.out))) : w.heap.size ≤ gb131)); have n4_ := Aside0.mk ((by rw [hg]; exact (below_size (by repeat (first | (with_reducible first | exact HB.out | apply below_alloc | apply pw_below_drewN | apply below_drew1) | exact HB.out))) : w.heap.size ≤ gb131)); clear HO_8; clear HB; have HO_8 := n0_; have HB := n1_; have BK131 := n2_; have GW131 := n3_; have GE131 := n4_; clear n0_ n1_ n2_ n3_ n4_; clear hb hbox hg; have hcz69_0 : w68.cell? ⟨gb131, 0, none⟩ = some (.int .i64 0) := (blk_cell BK131.out 0).trans rfl; have hcz69_1 : w68.cell? ⟨gb131, 1, none⟩ = some (.int .i64 0) := (blk_cell BK131.out 1).trans rfl; have hcz69_2 : w68.cell? ⟨gb131, 2, none⟩ = some (.string (⟨#[]⟩ : ByteArray)) := (blk_cell BK131.out 2).trans rfl; have hcz69_3 : w68.cell? ⟨gb131, 3, none⟩ = some (.bool false) := (blk_cell BK131.out 3).trans rfl; have hfz69_0 := blk_frozen BK131.out 0; have hfz69_1 := blk_frozen BK131.out 1; have hfz69_2 := blk_frozen BK131.out 2; have hfz69_3 := blk_frozen BK131.out 3))
                              go_roundg k2
                              case measure => have := HK1.out; have := HK2.out; omega
                              case rel => exact ⟨(x8_2), (wrap64 (x49_2 + 1)), (by first | rfl | (simp; done) | (simp [*]; done)), H', ⟨by have := HK1.out; have := HK2.out; omega⟩, ⟨by (with_reducible repeat (first | apply Kd.R_alloc | apply Kd.R_drewN | apply Kd.R_drew)); exact Kd.R_mono (Kd.R_far (p := ⟨gb131, 3, none⟩) (Kd.R_far (p := ⟨gb131, 2, none⟩) (Kd.R_far (p := ⟨gb131, 1, none⟩) (Kd.R_far (p := ⟨gb131, 0, none⟩) (Kd.R_types HO_8.out BK131.out (by decide)) (fun _ hk => hk.2) (.int .i64 ((rd_T40 l0 x49_2).f0))) (fun _ hk => hk.2) (.int .i64 ((rd_T40 l0 x49_2).f1))) (fun _ hk => hk.2) (.string ((rd_T40 l0 x49_2).f2))) (fun _ hk => hk.2) (.bool ((rd_T40 l0 x49_2).f3))) (fun _ hk => trivial)⟩, ⟨by repeat (first | (with_reducible first | exact HB.out | apply below_alloc | apply pw_below_drewN | apply below_drew1 | refine below_set ?_ GE131.out) | exact HB.out)⟩⟩
                    · rw [if_neg c22] at H
                      exact absurd H (by simp)
                  · rw [if_neg c21] at H
                    exact absurd H (by simp)
                · rw [if_neg c20] at H
                  have c20b0 : decide (x49_2 < (l0.length : Int)) = false := decide_eq_false c20
                  clear c20
                  simp only [Option.some.injEq, Prod.mk.injEq] at H
                  obtain ⟨rfl, rfl⟩ := H
                  go_wp2
                  go_ret2
                  exact ⟨_, by first | rfl | (simp [errW_none, errW_some] <;> rfl) | (simp [*, errW_none, errW_some] <;> rfl), by (with_reducible repeat (first | apply Kd.R_alloc | apply Kd.R_drewN | apply Kd.R_drew)); exact HO_8.out, by repeat (first | (with_reducible first | exact HB.out | apply below_alloc | apply pw_below_drewN | apply below_drew1) | exact HB.out)⟩
          · replace c17 := Bool.eq_false_iff.mpr c17
            subst c17
            have H1 : (some (([] : List Int), 41)) = some (r1, r2) := by rw [if_neg (show ¬ (false = true) by decide)] at H; exact H
            clear H
            have H := H1
            clear H1
            simp only [Option.some.injEq, Prod.mk.injEq] at H
            obtain ⟨rfl, rfl⟩ := H
            go_wp2
            go_ret2
            exact ⟨_, by first | rfl | (simp [errW_none, errW_some] <;> rfl) | (simp [*, errW_none, errW_some] <;> rfl), by first | exact Kd.R_nil _ _ _ _ _ | exact Kd.N_nil _ _ _ _ _ | exact Kd.V_nil _ _ _ _ _ | exact Kd.Q_nil _ _ _ _ _ | exact Kd.S_nil _ _ _ _ _, by repeat (first | (with_reducible first | exact HB.out | apply below_alloc | apply pw_below_drewN | apply below_drew1) | exact HB.out)⟩

end Go.Proofs.Ythcoiomnlcagcaa.PRQ

namespace Go.Proofs.Ythcoiomnlcagcaa.PRQ
open Go.RowKit Go.Proofs.YthcoiomnlcagcaaW.PrintWords Go.Proofs.YthcoiomnlcagcaaW.PrintLast Go.Proofs.YthcoiomnlcagcaaW.PrintMore
attribute [local go_sem] max2_int min2_int max_two min_two max_three min_three max_four min_four   -- for this text's walks alone
set_option linter.unusedVariables false
set_option linter.unusedSimpArgs false

-- NOT PRINTED: function 22 (rowcode_reader_value)

/-! ### rowcode_Decode: function 11, by hand -/
def rowcode_Decode.toS (x : Go.Proofs.Ythcoiomnlcagcaa.Rw.V4) : S40 := ⟨x.1, x.2.1, x.2.2.1, x.2.2.2⟩
theorem rowcode_Decode.reps (w : World) (base : Nat) (ok : Nat → Prop) : ∀ xs : List Go.Proofs.Ythcoiomnlcagcaa.Rw.V4, Reps (k40.M w base ok) k40.sz (xs.map rowcode_Decode.toS) (Go.Proofs.Ythcoiomnlcagcaa.Rw.rowC xs)
  | [] => Reps.none _ _
  | x :: xs => by
    have h := Kd.reps_append (Reps.snoc (Reps.none (k40.M w base ok) k40.sz) (k40_mkM w base ok (rowcode_Decode.toS x)) rfl) (rowcode_Decode.reps w base ok xs)
    simpa [Go.Proofs.Ythcoiomnlcagcaa.Rw.rowC, Go.Proofs.Ythcoiomnlcagcaa.Rw.cells4, rowcode_Decode.toS] using h
theorem rowcode_Decode.post {w w' : World} {xs : List Go.Proofs.Ythcoiomnlcagcaa.Rw.V4} {m : Int} {e : Ending} (h : Go.Proofs.Ythcoiomnlcagcaa.Rw.DecPost w xs m e w') : ∃ v0_ : Value, e = .returned (.tuple #[v0_, .int .i64 m]) ∧ Kd.R k40 40 w' w.heap.size (fun _ => True) v0_ (xs.map rowcode_Decode.toS) ∧ Below w.heap.size w w' := by
  obtain ⟨u, rfl, h2, h3⟩ := h
  exact ⟨u, rfl, ⟨fun _ _ => trivial, Go.Proofs.Ythcoiomnlcagcaa.Rw.rowC xs, by rw [List.length_map]; exact h2, rowcode_Decode.reps _ _ _ xs⟩, h3⟩
def rowcode_Decode.f (l0 : List Int) : Option (List (S40) × Int) := if l0.length ≤ 140800000000000 then (Go.Proofs.Ythcoiomnlcagcaa.Rw.decD l0).map (fun p => (p.1.map rowcode_Decode.toS, p.2)) else none
theorem rowcode_Decode.calls (A0 : Option Addr) (c0 : Nat) (l0 : List Int) (r1 : List (S40)) (r2 : Int) (w : World) (hr0 : Kd.C (Kd.int .u8) w A0 l0.length l0) (hc0 : l0.length ≤ c0) (h : rowcode_Decode.f l0 = some (r1, r2)) :
    Calls Try.prog 11 #[.slice A0 l0.length c0] w fun e w' => ∃ v0_ : Value, e = .returned (.tuple #[v0_, .int .i64 r2]) ∧ Kd.R k40 40 w' w.heap.size (fun _ => True) v0_ r1 ∧ Below w.heap.size w w' := by
  have key : ∃ xs, Calls Try.prog 11 #[.slice A0 l0.length c0] w (Go.Proofs.Ythcoiomnlcagcaa.Rw.DecPost w xs r2) ∧ r1 = xs.map rowcode_Decode.toS := by
    unfold rowcode_Decode.f at h
    split at h
    · rename_i hl
      cases l0 with
      | nil =>
        simp [Go.Proofs.Ythcoiomnlcagcaa.Rw.decD] at h
        exact ⟨[], h.2 ▸ Go.Proofs.Ythcoiomnlcagcaa.Rw.dec_nil A0 c0 w hr0, by simp [← h.1]⟩
      | cons c r =>
        unfold Go.Proofs.Ythcoiomnlcagcaa.Rw.decD at h
        dsimp only at h
        split at h
        · simp at h
        rename_i hn
        simp only [List.length_cons] at hl
        split at h
        · rename_i h12
          simp at h
          exact ⟨[], h.2 ▸ Go.Proofs.Ythcoiomnlcagcaa.Rw.dec_cons A0 c0 c r w hr0 hc0 hl (by omega) (by omega) h12, by simp [← h.1]⟩
        · rename_i h12
          cases hT : Go.Proofs.Ythcoiomnlcagcaa.Rw.rowD c.toNat r with
          | none => rw [hT] at h; simp at h
          | some T =>
            rw [hT] at h
            simp only [Option.map_some, Option.some.injEq] at h
            obtain ⟨m, rfl⟩ : ∃ m : Nat, c = m := ⟨c.toNat, by omega⟩
            cases hf : Go.Proofs.Ythcoiomnlcagcaa.Rw.fin T with
            | mk xs q =>
              have e : (Go.Proofs.Ythcoiomnlcagcaa.Rw.fin T).1 = xs ∧ (Go.Proofs.Ythcoiomnlcagcaa.Rw.fin T).2 = q := by rw [hf]; exact ⟨rfl, rfl⟩
              have h9 : (xs.map rowcode_Decode.toS, q) = (r1, r2) := by
                rw [← h, ← e.1, ← e.2]
                cases T with
                | none => rfl
                | some p => obtain ⟨p1, p2⟩ := p; rfl
              replace h := h9
              clear h9
              simp only [Prod.mk.injEq] at h
              obtain ⟨h1, h2⟩ := h
              subst h2
              exact ⟨xs, Go.Proofs.Ythcoiomnlcagcaa.Rw.dec_yes A0 c0 m r w T xs q hr0 hc0 hl (by omega) (by simpa using hT) hf, h1.symm⟩
    · cases h
  obtain ⟨xs, hk, rfl⟩ := key
  exact hk.mono fun e w' hp => rowcode_Decode.post hp

end Go.Proofs.Ythcoiomnlcagcaa.PRQ
