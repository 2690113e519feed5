/- Texts of this claim, set one behind the other by a program: part 2. -/
import Derived.Test.YtogcjflneedcfaaDoorXLocksShort1
import Derived.Lib.SliceRun
import Derived.Laws.IdiomCopy
import Derived.Deep.QuietTactic
import Derived.BigQuiet
import Derived.Deep.Slices
import Derived.Deep.Fields
import Derived.ChangeSame
import Derived.SizedLaws
import Derived.WideShapes
import Derived.OpenShut
import Derived.ChangeSlices
import Derived.SliceStrings
namespace Go.Proofs.YtogcjflneedcfaaDoor
open Go.RowKit Md Go.Shelf
set_option linter.unusedVariables false
set_option linter.unusedSimpArgs false
namespace Lk

/-- nothing changes that was there, but what F tells -/
structure Fr (F : Nat → Prop) (w w' : World) : Prop where
  os : w'.os = w.os
  tape : w'.tape = w.tape
  output : w'.output = w.output
  size : w.heap.size ≤ w'.heap.size
  keep : ∀ i, i < w.heap.size → ¬ F i → w'.heap[i]? = w.heap[i]?
theorem Fr.refl (F : Nat → Prop) (w : World) : Fr F w w := ⟨rfl, rfl, rfl, Nat.le_refl _, fun _ _ _ => rfl⟩
theorem Fr.trans {F : Nat → Prop} {w w1 w2 : World} (h : Fr F w w1) (g : Fr F w1 w2) : Fr F w w2 :=
  ⟨g.os.trans h.os, g.tape.trans h.tape, g.output.trans h.output, Nat.le_trans h.size g.size, fun i hi hf => (g.keep i (Nat.lt_of_lt_of_le hi h.size) hf).trans (h.keep i hi hf)⟩
theorem Fr.of_below {F : Nat → Prop} {w w' : World} (h : Below w.heap.size w w') : Fr F w w' := ⟨h.os, h.tape, h.output, h.size, fun i hi _ => h.block i hi⟩
theorem Fr.mono {F G : Nat → Prop} {w w' : World} (h : Fr F w w') (hg : ∀ i, i < w.heap.size → F i → G i) : Fr G w w' := ⟨h.os, h.tape, h.output, h.size, fun i hi hn => h.keep i hi fun hf => hn (hg i hi hf)⟩
theorem Fr.below {F : Nat → Prop} {w w' : World} {B : Nat} (h : Fr F w w') (hB : B ≤ w.heap.size) (hf : ∀ i, i < B → ¬ F i) : Below B w w' := ⟨h.os, h.tape, h.output, h.size, fun i hi => h.keep i (by omega) (hf i hi)⟩
theorem Fr.gl {F : Nat → Prop} {w w' : World} (h : Fr F w w') (gl : Gl w) (hf : ∀ i, F i → 2 ≤ i) : Gl w' where
  size := Nat.le_trans gl.size h.size
  fits i hi := by
    have := gl.size
    rw [World.cell?_of_block (h.keep 1 (by omega) (fun q => by have := hf 1 q; omega))]
    exact gl.fits i hi
  cov i hi := by
    have := gl.size
    rw [World.cell?_of_block (h.keep 0 (by omega) (fun q => by have := hf 0 q; omega))]
    exact gl.cov i hi
theorem Fr.rq {F : Nat → Prop} {w w' : World} {p : Nat} {r : Rq} (h : Fr F w w') (hr : IsRq w p r) (hn : ¬ F p) : IsRq w' p r := (h.keep p hr.lt hn).trans hr
theorem Fr.set {F : Nat → Prop} (w : World) (a : Addr) (v : Value) (h : F a.block) : Fr F w (w.setCell a v) :=
  ⟨rfl, rfl, rfl, (KeepsWalks.setCell w a v).size, fun i hi hn => Below.heap_setCell w a v i (fun e => hn (e ▸ h))⟩
theorem set_at {w : World} {g : Nat} {cur : Array Value} {t : TypeId} {fr : Nat × Nat} (h : w.heap[g]? = some (.cells cur t fr)) (i : Nat) (v : Value) : (w.setCell ⟨g, i, none⟩ v).heap[g]? = some (.cells (cur.setIfInBounds i v) t fr) := by
  obtain ⟨h1, h2⟩ := Array.getElem?_eq_some_iff.1 h
  show (w.heap.modify g _)[g]? = _
  rw [Array.getElem?_modify]
  simp [h]
theorem sets_at {t : TypeId} {fr : Nat × Nat} {g : Nat} : ∀ (vs : List Value) (o : Nat) (w : World) (cur : Array Value), w.heap[g]? = some (.cells cur t fr) → ∃ cur', (w.setCells g o vs).heap[g]? = some (.cells cur' t fr) ∧ cur'.size = cur.size ∧ ∀ j, j < o → cur'[j]? = cur[j]?
  | [], o, w, cur, h => ⟨cur, h, rfl, fun _ _ => rfl⟩
  | v :: vs, o, w, cur, h => by
    obtain ⟨c', h1, h2, h3⟩ := sets_at vs (o + 1) _ _ (set_at h o v)
    refine ⟨c', h1, by rw [h2]; simp, fun j hj => ?_⟩
    rw [h3 j (by omega), Array.getElem?_setIfInBounds_ne (by omega)]
theorem Fr.sets {F : Nat → Prop} {g : Nat} (h : F g) : ∀ (vs : List Value) (o : Nat) (w : World), Fr F w (w.setCells g o vs)
  | [], o, w => Fr.refl F w
  | v :: vs, o, w => (Fr.set w ⟨g, o, none⟩ v h).trans (Fr.sets h vs (o + 1) _)
/-- what is left of a list's first j when those at which q holds are gone -/
def kept {α : Type} (xs : List α) (q : Nat → Bool) (j : Nat) : List α := ((List.range j).filter (fun i => !q i)).filterMap fun i => xs[i]?
theorem kept_succ {α : Type} {xs : List α} {q : Nat → Bool} {j : Nat} {x : α} (h : xs[j]? = some x) : kept xs q (j + 1) = kept xs q j ++ if q j then [] else [x] := by
  unfold kept
  rw [List.range_succ, List.filter_append, List.filterMap_append]
  cases hq : q j <;> simp [hq, h]
theorem kept_le {α : Type} (xs : List α) (q : Nat → Bool) (j : Nat) : (kept xs q j).length ≤ j := by
  unfold kept
  exact Nat.le_trans (List.length_filterMap_le _ _) (Nat.le_trans (List.length_filter_le _ _) (by simp))
theorem kept_all {α : Type} (xs : List α) (q : Nat → Bool) : ∀ (j : Nat), j ≤ xs.length → (∀ i, i < j → q i = false) → kept xs q j = xs.take j
  | 0, _, _ => by simp [kept]
  | j + 1, h, hq => by
    have hx : xs[j]? = some xs[j] := List.getElem?_eq_getElem (by omega)
    rw [kept_succ hx, kept_all xs q j (by omega) (fun i hi => hq i (by omega)), hq j (by omega), List.take_add_one, hx]
    rfl
theorem kept_lt {α : Type} (xs : List α) {q : Nat → Bool} {k : Nat} (hk : q k = true) : ∀ j, k < j → (kept xs q j).length < j
  | 0, h => by omega
  | j + 1, h => by
    by_cases e : k = j
    · subst e
      have := kept_le xs q k
      have : kept xs q (k + 1) = kept xs q k := by
        unfold kept
        rw [List.range_succ, List.filter_append]
        simp [hk]
      rw [this]; omega
    · have ih := kept_lt xs hk j (by omega)
      cases hx : xs[j]? with
      | none =>
        have : kept xs q (j + 1) = kept xs q j := by
          unfold kept
          rw [List.range_succ, List.filter_append, List.filterMap_append]
          cases hq : q j <;> simp [hq, hx]
        rw [this]; omega
      | some x =>
        rw [kept_succ hx, List.length_append]
        cases hq : q j <;> simp <;> omega
theorem kept_filter {α : Type} (xs : List α) (del : α → Bool) (q : Nat → Bool) (hq : ∀ i x, xs[i]? = some x → q i = del x) : ∀ j, j ≤ xs.length → kept xs q j = (xs.take j).filter (fun x => !del x)
  | 0, _ => by simp [kept]
  | j + 1, h => by
    have hx : xs[j]? = some xs[j] := List.getElem?_eq_getElem (by omega)
    rw [kept_succ hx, kept_filter xs del q hq j (by omega), List.take_add_one, hx, List.filter_append, hq j _ hx]
    cases hd : del xs[j] <;> simp [hd]
theorem kept_map {α β : Type} (xs : List α) (f : α → β) (q : Nat → Bool) (j : Nat) : kept (xs.map f) q j = (kept xs q j).map f := by
  unfold kept
  rw [List.map_filterMap]
  congr 1
  funext i
  rw [List.getElem?_map]
set_option maxRecDepth 100000 in
theorem drop1_any (D BT : Nat) (v : Value) (ps : List Nat) (T : List Rq) (most : Int) (i p : Nat) (r : Rq) (w : World) (gl : Gl w) (ht : TabAt w D v ps T most) (hp : ps[i]? = some p) (hr : T[i]? = some r) (hB : w.cell? ⟨BT, 0, none⟩ = some (ptr D)) : Calls Tryd.prog 60 #[ptr p, ptr BT] w fun e w' => e = .returned (.bool (!r.g && mayB T i)) ∧ St w w' := by
  obtain ⟨c0, c1, c2, c3, c4, c5, c6, c7, c8⟩ := (ht.rq i p r hp hr).cells
  have hm := may_any D v ps T most i p w gl ht hp
  have hs : St w w := St.refl gl
  clear ht hp hr
  unfold ptr at *
  cases hg : r.g
  all_goals rw [hg] at c7
  all_goals go_enter Tryd.func60, Tryd.ntmps60
  · go_wp2_with (go_at_call 47; refine hm.mono ?_; clear hm; rintro e w2 ⟨rfl, hb⟩)
    go_ret
    exact ⟨rfl, hb⟩
  · go_wp2_with fail
    go_ret
    exact ⟨rfl, hs⟩
end Lk
end Go.Proofs.YtogcjflneedcfaaDoor

namespace Go.Proofs.YtogcjflneedcfaaDoor
open Go.RowKit Md Go.Shelf
set_option linter.unusedVariables false
set_option linter.unusedSimpArgs false
namespace Lk

theorem row_mk {w : World} {g cap : Nat} {cur : Array Value} {ps : List Nat} (h : w.heap[g]? = some (.cells cur 66 (0, 0))) (hz : cur.size = cap) (hm : cap ≤ maxLen) (hl : ps.length ≤ cap) (hc : ∀ j, j < ps.length → cur[j]? = (ps[j]?).map ptr) : w.ownsRow 0 66 1 (.slice (some ⟨g, 0, none⟩) ps.length cap) ps.length (ps.map ptr) := by
  refine ⟨by simp, .inr ⟨g, cap, cur, rfl, Nat.zero_le _, h, hl, hm, by omega, ?_⟩⟩
  apply List.ext_getElem?
  intro j
  rw [Nat.mul_one, List.getElem?_map]
  by_cases hj : j < ps.length
  · rw [List.getElem?_take_of_lt hj]
    simpa using hc j hj
  · rw [List.getElem?_eq_none (by simp; omega), List.getElem?_eq_none (by omega)]
    rfl
theorem row_cells {w : World} {g n c : Nat} {ps : List Nat} (h : w.ownsRow 0 66 1 (.slice (some ⟨g, 0, none⟩) n c) n (ps.map ptr)) : ∃ cur, w.heap[g]? = some (.cells cur 66 (0, 0)) ∧ cur.size = c ∧ n ≤ c ∧ c ≤ maxLen ∧ ps.length = n ∧ ∀ j, j < n → cur[j]? = (ps[j]?).map ptr := by
  have hl : ps.length = n := by have := h.1; simpa using this
  rcases h.2 with ⟨q, h0⟩ | ⟨g', cap, cur, q, q1, q2, q3, q4, q5, q6⟩
  · cases q
  · cases q
    refine ⟨cur, q2, by omega, q3, q4, hl, fun j hj => ?_⟩
    have h2 : (cur.toList.take (n * 1))[j]? = (ps.map ptr)[j]? := by rw [q6]
    rw [List.getElem?_take_of_lt (by omega), List.getElem?_map] at h2
    simpa using h2
/-- the loop of DeleteFunc: the first i places hold what is left of the first j, those from j on are as they were -/
def LD (ps : List Nat) (q : Nat → Bool) (g cap : Nat) (w : World) (i j : Value) (wr : World) : Prop :=
  ∃ (m : Nat) (cur : Array Value), j = .int .i64 m ∧ i = .int .i64 (kept ps q m).length ∧ m ≤ ps.length ∧ (kept ps q m).length < m ∧ wr.heap[g]? = some (.cells cur 66 (0, 0)) ∧ cur.size = cap ∧ (∀ k, k < (kept ps q m).length → cur[k]? = ((kept ps q m)[k]?).map ptr) ∧ (∀ k, m ≤ k → k < ps.length → cur[k]? = (ps[k]?).map ptr) ∧ Fr (fun b => b = g) w wr

set_option maxHeartbeats 2000000 in
set_option maxRecDepth 100000 in
theorem delete42_any (v : Value) (ps : List Nat) (n : Nat) (q : Nat → Bool) (C0 : Value) (w : World) (gl : Gl w) (hrow : w.ownsRow 0 66 1 v n (ps.map ptr)) (hlo : ∀ b, v.ownBlock = some b → 2 ≤ b)
    (hq : ∀ (i p : Nat) (W : World), ps[i]? = some p → Fr (fun b => v.ownBlock = some b) w W → Calls Tryd.prog 42 #[ptr p, C0] W fun e W' => e = .returned (.bool (q i)) ∧ ∃ z, W' = W.drewN z) :
    Calls Tryd.prog 58 #[v, .func (.func 42) #[] #[C0]] w fun e w' => ∃ v', e = .returned v' ∧ (∀ b, v'.ownBlock = some b → v.ownBlock = some b) ∧ w'.ownsRow 0 66 1 v' (kept ps q n).length ((kept ps q n).map ptr) ∧ Fr (fun b => v.ownBlock = some b) w w' := by
  have hix := index42_any v ps n q C0 w gl hrow (fun i p W hp hW => (hq i p W hp (Fr.of_below hW.b)).mono fun e W' ⟨h1, z, h2⟩ => ⟨h1, by rw [h2]; exact (St.refl hW.gl).drewN z⟩)
  have hl : ps.length = n := by have := hrow.1; simpa using this
  obtain ⟨a, c, rfl⟩ := own_slice hrow
  have hn := own_len hrow
  simp only [maxLen] at hn
  have HROW := Lib.hid hrow
  have HQ := Lib.hid hq
  have HLO := Lib.hid hlo
  clear hrow hq hlo
  rcases idx_cases q n with ⟨k, hk, hqk, hlk, hi⟩ | ⟨hno, hi⟩
  · rw [hi] at hix
    obtain ⟨p0, hp0⟩ : ∃ p0, ps[k]? = some p0 := ⟨ps[k]'(by omega), List.getElem?_eq_getElem (by omega)⟩
    obtain ⟨g, rfl, _⟩ := row_ptr HROW.out hp0
    have HLK := Lib.hid hlk
    have HQK := Lib.hid hqk
    clear hi hlk hqk
    go_enter Tryd.func58, Tryd.ntmps58
    go_wp2_with fail
    refine hix.mono ?_
    rintro e w1 ⟨rfl, hb1⟩
    have HB1 := Lib.hid hb1
    clear hb1
    have e1 : ((k : Int) == -1) = false := by simp
    go_wp2_with fail
    have hkk : kept ps q (k + 1) = ps.take k := by
      rw [kept_succ hp0, HQK.out, kept_all ps q k (by omega) HLK.out]
      simp
    have hkl : (kept ps q (k + 1)).length = k := by rw [hkk, List.length_take]; omega
    have HKK := Lib.hid hkk
    have HKL := Lib.hid hkl
    obtain ⟨cur0, hg0, hz0, hnc, hcm, _, hc0⟩ := row_cells HROW.out
    have HG0 := Lib.hid ((HB1.out.b.block g (Array.getElem?_eq_some_iff.1 hg0).1).trans hg0)
    have HZ0 := Lib.hid hz0
    have HC0 := Lib.hid hc0
    have hg2 : 2 ≤ g := HLO.out g rfl
    simp only [maxLen] at hcm
    clear hkk hkl hg0 hz0 hc0
    go_loopw [5, 6] (fun i j wr => LD ps q g c w i j wr) (fun _ j _ => n - (intOf j).toNat)
    case atStart =>
      refine ⟨k + 1, cur0, by go_num, by rw [HKL.out], by omega, by rw [HKL.out]; omega, HG0.out, HZ0.out, fun j hj => ?_, fun j h1 h2 => HC0.out j (by omega), Fr.of_below HB1.out.b⟩
      rw [HKL.out] at hj
      rw [HKK.out, List.getElem?_take_of_lt hj]
      exact HC0.out j (by omega)
    case round =>
      obtain ⟨m, cur, rfl, rfl, hm, hkm, hg, hz, hlow, hhigh, hfr⟩ := hrel
      have HG := Lib.hid hg
      have HLOW := Lib.hid hlow
      have HHIGH := Lib.hid hhigh
      have HFR := Lib.hid hfr
      have HKM := Lib.hid hkm
      have HZ := Lib.hid hz
      clear hg hlow hhigh hfr hkm hz HC0 HG0 HZ0 HKK HKL
      by_cases hlt : m < n
      · have t1 : decide (m < n) = true := decide_eq_true hlt
        have t2 : (m : Int) < n := by omega
        obtain ⟨p, hp⟩ : ∃ p, ps[m]? = some p := ⟨ps[m]'(by omega), List.getElem?_eq_getElem (by omega)⟩
        have hcell : wr.cell? ⟨g, m, none⟩ = some (.pointer (some ⟨p, 0, none⟩)) := (blk_cell HG.out m).trans ((HHIGH.out m (Nat.le_refl _) (by omega)).trans (by rw [hp]; rfl))
        have HP := Lib.hid hp
        clear hp
        go_wp2_with fail
        refine (HQ.out m p _ HP.out (HFR.out.mono fun b _ hb => by rw [hb]; rfl)).mono ?_
        rintro e w2 ⟨he, z, rfl⟩
        clear hcell
        cases hqk : q m
        · rw [hqk] at he
          subst he
          have HS := Lib.hid (show kept ps q (m + 1) = kept ps q m ++ [p] by rw [kept_succ HP.out, hqk]; rfl)
          clear hqk
          have hsz : (kept ps q m).length < cur.size := by have := HKM.out; have := HZ.out; omega
          have hci : wr.cell? ⟨g, (kept ps q m).length, none⟩ = some cur[(kept ps q m).length] := (blk_cell HG.out _).trans (Array.getElem?_eq_getElem hsz)
          have hfi : wr.frozen? ⟨g, (kept ps q m).length, none⟩ = false := by simp [World.frozen?, HG.out]
          have hkn : ((kept ps q m).length : Int) < n := by have := HKM.out; omega
          generalize cur[(kept ps q m).length] = old at hci
          generalize hkl : (kept ps q m).length = kl at *
          have HKL := Lib.hid hkl
          clear hkl
          have hkl2 : (kl : Int) + 1 ≤ 9223372036854775807 := by omega
          go_wp2_with fail
          go_roundw
          case rel =>
            have hz := HZ.out
            have hkm := HKM.out
            refine ⟨m + 1, cur.setIfInBounds kl (.pointer (some ⟨p, 0, none⟩)), by go_num, by rw [HS.out, List.length_append, HKL.out]; go_num, by omega, by rw [HS.out, List.length_append, HKL.out]; simp; omega, set_at HG.out kl _, by simp [hz], fun j hj => ?_, fun j h1 h2 => ?_, ?_⟩
            · rw [HS.out, List.length_append, HKL.out] at hj
              simp at hj
              rw [HS.out]
              by_cases hjk : j = kl
              · subst hjk
                rw [Array.getElem?_setIfInBounds_self_of_lt hsz, List.getElem?_append_right (by rw [HKL.out]; exact Nat.le_refl _), HKL.out]
                simp [ptr]
              · rw [Array.getElem?_setIfInBounds_ne (Ne.symm hjk), List.getElem?_append_left (by rw [HKL.out]; omega)]
                exact HLOW.out j (by omega)
            · rw [Array.getElem?_setIfInBounds_ne (by omega)]
              exact HHIGH.out j (by omega) h2
            · exact HFR.out.trans ((Fr.of_below (below_drewN (Below.refl _ _) z)).trans (Fr.set (wr.drewN z) ⟨g, kl, none⟩ _ rfl))
          case measure => simp [intOf]; omega
        · rw [hqk] at he
          subst he
          have HS := Lib.hid (show kept ps q (m + 1) = kept ps q m by rw [kept_succ HP.out, hqk]; simp)
          clear hqk
          go_wp2_with fail
          go_roundw
          case rel =>
            have hkm := HKM.out
            refine ⟨m + 1, cur, by go_num, by rw [HS.out], by omega, by rw [HS.out]; omega, HG.out, HZ.out, by rw [HS.out]; exact HLOW.out, fun j h1 h2 => HHIGH.out j (by omega) h2, HFR.out.trans (Fr.of_below (below_drewN (Below.refl _ _) z))⟩
          case measure => simp [intOf]; omega
      · have t1 : decide (m < n) = false := decide_eq_false hlt
        obtain rfl : m = n := by omega
        have hkm := HKM.out
        generalize hkl : (kept ps q m).length = kl at *
        have HKL := Lib.hid hkl
        clear hkl
        have hne : ¬ c = kl := by omega
        have t3 : (kl : Int) ≤ m := by omega
        have hcl : ∀ ty, (Builtin.clear_ #[63] ty #[.slice (some ⟨g, kl, none⟩) (m - kl) (c - kl)]).run Tryd.prog wr = .ok (.tuple #[]) (wr.setCells g kl (List.replicate (m - kl) (.pointer none))) := fun ty =>
          Lib.run_clear_slice wr _ _ ty _ Tryd.underlying63 Tryd.zeroValue66 rfl rfl g kl _ _ (by omega) (fun j hj => by rw [blk_cell HG.out, Array.getElem?_eq_getElem (by have := HZ.out; omega)]; rfl) (fun j hj => by simp [World.frozen?, HG.out])
        go_wp2_with fail
        go_ret
        obtain ⟨cur', h1, h2, h3⟩ := sets_at (List.replicate (m - kl) (Value.pointer none)) kl wr cur HG.out
        have hz := HZ.out
        have hR := row_mk (ps := kept ps q m) h1 (h2.trans hz) (by simp only [maxLen]; omega) (by rw [HKL.out]; omega) (fun j hj => by rw [HKL.out] at hj; rw [h3 j hj]; exact HLOW.out j hj)
        rw [HKL.out] at hR
        refine ⟨_, rfl, fun b hb => hb, ?_, ?_⟩
        · rw [HKL.out]; exact hR
        · exact (HFR.out.mono fun b _ hb => by rw [hb]; rfl).trans (Fr.sets (g := g) (show Value.ownBlock (.slice (some ⟨g, 0, none⟩) m c) = some g from rfl) _ _ _)
  · rw [hi] at hix
    go_enter Tryd.func58, Tryd.ntmps58
    go_wp2_with fail
    refine hix.mono ?_
    rintro e w1 ⟨rfl, hb1⟩
    have HB1 := Lib.hid hb1
    clear hb1
    go_wp2_with fail
    go_ret
    have h2 : kept ps q n = ps := by rw [kept_all ps q n (by omega) hno, List.take_of_length_le (by omega)]
    rw [h2, hl]
    exact ⟨_, rfl, fun b hb => hb, below_row HROW.out HB1.out.b, Fr.of_below HB1.out.b⟩

set_option maxHeartbeats 2000000 in
set_option maxRecDepth 100000 in
theorem delete38_any (v : Value) (ps : List Nat) (n : Nat) (q : Nat → Bool) (C0 : Value) (w : World) (gl : Gl w) (hrow : w.ownsRow 0 66 1 v n (ps.map ptr)) (hlo : ∀ b, v.ownBlock = some b → 2 ≤ b)
    (hq : ∀ (i p : Nat) (W : World), ps[i]? = some p → Fr (fun b => v.ownBlock = some b) w W → Calls Tryd.prog 38 #[ptr p, C0] W fun e W' => e = .returned (.bool (q i)) ∧ ∃ z, W' = W.drewN z) :
    Calls Tryd.prog 58 #[v, .func (.func 38) #[] #[C0]] w fun e w' => ∃ v', e = .returned v' ∧ (∀ b, v'.ownBlock = some b → v.ownBlock = some b) ∧ w'.ownsRow 0 66 1 v' (kept ps q n).length ((kept ps q n).map ptr) ∧ Fr (fun b => v.ownBlock = some b) w w' := by
  have hix := index38_any v ps n q C0 w gl hrow (fun i p W hp hW => (hq i p W hp (Fr.of_below hW.b)).mono fun e W' ⟨h1, z, h2⟩ => ⟨h1, by rw [h2]; exact (St.refl hW.gl).drewN z⟩)
  have hl : ps.length = n := by have := hrow.1; simpa using this
  obtain ⟨a, c, rfl⟩ := own_slice hrow
  have hn := own_len hrow
  simp only [maxLen] at hn
  have HROW := Lib.hid hrow
  have HQ := Lib.hid hq
  have HLO := Lib.hid hlo
  clear hrow hq hlo
  rcases idx_cases q n with ⟨k, hk, hqk, hlk, hi⟩ | ⟨hno, hi⟩
  · rw [hi] at hix
    obtain ⟨p0, hp0⟩ : ∃ p0, ps[k]? = some p0 := ⟨ps[k]'(by omega), List.getElem?_eq_getElem (by omega)⟩
    obtain ⟨g, rfl, _⟩ := row_ptr HROW.out hp0
    have HLK := Lib.hid hlk
    have HQK := Lib.hid hqk
    clear hi hlk hqk
    go_enter Tryd.func58, Tryd.ntmps58
    go_wp2_with fail
    refine hix.mono ?_
    rintro e w1 ⟨rfl, hb1⟩
    have HB1 := Lib.hid hb1
    clear hb1
    have e1 : ((k : Int) == -1) = false := by simp
    go_wp2_with fail
    have hkk : kept ps q (k + 1) = ps.take k := by
      rw [kept_succ hp0, HQK.out, kept_all ps q k (by omega) HLK.out]
      simp
    have hkl : (kept ps q (k + 1)).length = k := by rw [hkk, List.length_take]; omega
    have HKK := Lib.hid hkk
    have HKL := Lib.hid hkl
    obtain ⟨cur0, hg0, hz0, hnc, hcm, _, hc0⟩ := row_cells HROW.out
    have HG0 := Lib.hid ((HB1.out.b.block g (Array.getElem?_eq_some_iff.1 hg0).1).trans hg0)
    have HZ0 := Lib.hid hz0
    have HC0 := Lib.hid hc0
    have hg2 : 2 ≤ g := HLO.out g rfl
    simp only [maxLen] at hcm
    clear hkk hkl hg0 hz0 hc0
    go_loopw [5, 6] (fun i j wr => LD ps q g c w i j wr) (fun _ j _ => n - (intOf j).toNat)
    case atStart =>
      refine ⟨k + 1, cur0, by go_num, by rw [HKL.out], by omega, by rw [HKL.out]; omega, HG0.out, HZ0.out, fun j hj => ?_, fun j h1 h2 => HC0.out j (by omega), Fr.of_below HB1.out.b⟩
      rw [HKL.out] at hj
      rw [HKK.out, List.getElem?_take_of_lt hj]
      exact HC0.out j (by omega)
    case round =>
      obtain ⟨m, cur, rfl, rfl, hm, hkm, hg, hz, hlow, hhigh, hfr⟩ := hrel
      have HG := Lib.hid hg
      have HLOW := Lib.hid hlow
      have HHIGH := Lib.hid hhigh
      have HFR := Lib.hid hfr
      have HKM := Lib.hid hkm
      have HZ := Lib.hid hz
      clear hg hlow hhigh hfr hkm hz HC0 HG0 HZ0 HKK HKL
      by_cases hlt : m < n
      · have t1 : decide (m < n) = true := decide_eq_true hlt
        have t2 : (m : Int) < n := by omega
        obtain ⟨p, hp⟩ : ∃ p, ps[m]? = some p := ⟨ps[m]'(by omega), List.getElem?_eq_getElem (by omega)⟩
        have hcell : wr.cell? ⟨g, m, none⟩ = some (.pointer (some ⟨p, 0, none⟩)) := (blk_cell HG.out m).trans ((HHIGH.out m (Nat.le_refl _) (by omega)).trans (by rw [hp]; rfl))
        have HP := Lib.hid hp
        clear hp
        go_wp2_with fail
        refine (HQ.out m p _ HP.out (HFR.out.mono fun b _ hb => by rw [hb]; rfl)).mono ?_
        rintro e w2 ⟨he, z, rfl⟩
        clear hcell
        cases hqk : q m
        · rw [hqk] at he
          subst he
          have HS := Lib.hid (show kept ps q (m + 1) = kept ps q m ++ [p] by rw [kept_succ HP.out, hqk]; rfl)
          clear hqk
          have hsz : (kept ps q m).length < cur.size := by have := HKM.out; have := HZ.out; omega
          have hci : wr.cell? ⟨g, (kept ps q m).length, none⟩ = some cur[(kept ps q m).length] := (blk_cell HG.out _).trans (Array.getElem?_eq_getElem hsz)
          have hfi : wr.frozen? ⟨g, (kept ps q m).length, none⟩ = false := by simp [World.frozen?, HG.out]
          have hkn : ((kept ps q m).length : Int) < n := by have := HKM.out; omega
          generalize cur[(kept ps q m).length] = old at hci
          generalize hkl : (kept ps q m).length = kl at *
          have HKL := Lib.hid hkl
          clear hkl
          have hkl2 : (kl : Int) + 1 ≤ 9223372036854775807 := by omega
          go_wp2_with fail
          go_roundw
          case rel =>
            have hz := HZ.out
            have hkm := HKM.out
            refine ⟨m + 1, cur.setIfInBounds kl (.pointer (some ⟨p, 0, none⟩)), by go_num, by rw [HS.out, List.length_append, HKL.out]; go_num, by omega, by rw [HS.out, List.length_append, HKL.out]; simp; omega, set_at HG.out kl _, by simp [hz], fun j hj => ?_, fun j h1 h2 => ?_, ?_⟩
            · rw [HS.out, List.length_append, HKL.out] at hj
              simp at hj
              rw [HS.out]
              by_cases hjk : j = kl
              · subst hjk
                rw [Array.getElem?_setIfInBounds_self_of_lt hsz, List.getElem?_append_right (by rw [HKL.out]; exact Nat.le_refl _), HKL.out]
                simp [ptr]
              · rw [Array.getElem?_setIfInBounds_ne (Ne.symm hjk), List.getElem?_append_left (by rw [HKL.out]; omega)]
                exact HLOW.out j (by omega)
            · rw [Array.getElem?_setIfInBounds_ne (by omega)]
              exact HHIGH.out j (by omega) h2
            · exact HFR.out.trans ((Fr.of_below (below_drewN (Below.refl _ _) z)).trans (Fr.set (wr.drewN z) ⟨g, kl, none⟩ _ rfl))
          case measure => simp [intOf]; omega
        · rw [hqk] at he
          subst he
          have HS := Lib.hid (show kept ps q (m + 1) = kept ps q m by rw [kept_succ HP.out, hqk]; simp)
          clear hqk
          go_wp2_with fail
          go_roundw
          case rel =>
            have hkm := HKM.out
            refine ⟨m + 1, cur, by go_num, by rw [HS.out], by omega, by rw [HS.out]; omega, HG.out, HZ.out, by rw [HS.out]; exact HLOW.out, fun j h1 h2 => HHIGH.out j (by omega) h2, HFR.out.trans (Fr.of_below (below_drewN (Below.refl _ _) z))⟩
          case measure => simp [intOf]; omega
      · have t1 : decide (m < n) = false := decide_eq_false hlt
        obtain rfl : m = n := by omega
        have hkm := HKM.out
        generalize hkl : (kept ps q m).length = kl at *
        have HKL := Lib.hid hkl
        clear hkl
        have hne : ¬ c = kl := by omega
        have t3 : (kl : Int) ≤ m := by omega
        have hcl : ∀ ty, (Builtin.clear_ #[63] ty #[.slice (some ⟨g, kl, none⟩) (m - kl) (c - kl)]).run Tryd.prog wr = .ok (.tuple #[]) (wr.setCells g kl (List.replicate (m - kl) (.pointer none))) := fun ty =>
          Lib.run_clear_slice wr _ _ ty _ Tryd.underlying63 Tryd.zeroValue66 rfl rfl g kl _ _ (by omega) (fun j hj => by rw [blk_cell HG.out, Array.getElem?_eq_getElem (by have := HZ.out; omega)]; rfl) (fun j hj => by simp [World.frozen?, HG.out])
        go_wp2_with fail
        go_ret
        obtain ⟨cur', h1, h2, h3⟩ := sets_at (List.replicate (m - kl) (Value.pointer none)) kl wr cur HG.out
        have hz := HZ.out
        have hR := row_mk (ps := kept ps q m) h1 (h2.trans hz) (by simp only [maxLen]; omega) (by rw [HKL.out]; omega) (fun j hj => by rw [HKL.out] at hj; rw [h3 j hj]; exact HLOW.out j hj)
        rw [HKL.out] at hR
        refine ⟨_, rfl, fun b hb => hb, ?_, ?_⟩
        · rw [HKL.out]; exact hR
        · exact (HFR.out.mono fun b _ hb => by rw [hb]; rfl).trans (Fr.sets (g := g) (show Value.ownBlock (.slice (some ⟨g, 0, none⟩) m c) = some g from rfl) _ _ _)
  · rw [hi] at hix
    go_enter Tryd.func58, Tryd.ntmps58
    go_wp2_with fail
    refine hix.mono ?_
    rintro e w1 ⟨rfl, hb1⟩
    have HB1 := Lib.hid hb1
    clear hb1
    go_wp2_with fail
    go_ret
    have h2 : kept ps q n = ps := by rw [kept_all ps q n (by omega) hno, List.take_of_length_le (by omega)]
    rw [h2, hl]
    exact ⟨_, rfl, fun b hb => hb, below_row HROW.out HB1.out.b, Fr.of_below HB1.out.b⟩
end Lk
end Go.Proofs.YtogcjflneedcfaaDoor

namespace Go.Proofs.YtogcjflneedcfaaDoor
open Go.RowKit Md Go.Shelf
set_option linter.unusedVariables false
set_option linter.unusedSimpArgs false
namespace Lk

theorem kept_sub {α : Type} (xs : List α) (q : Nat → Bool) : ∀ j, j ≤ xs.length → (kept xs q j).Sublist (xs.take j)
  | 0, _ => by simp [kept]
  | j + 1, h => by
    have hx : xs[j]? = some xs[j] := List.getElem?_eq_getElem (by omega)
    rw [kept_succ hx, List.take_add_one, hx]
    refine (kept_sub xs q j (by omega)).append ?_
    cases q j <;> simp
theorem kept_pair {α β : Type} (xs : List α) (ys : List β) (q : Nat → Bool) (hl : xs.length = ys.length) : ∀ (j : Nat), j ≤ xs.length → (kept xs q j).length = (kept ys q j).length ∧ ∀ (i : Nat) (x : α) (y : β), (kept xs q j)[i]? = some x → (kept ys q j)[i]? = some y → ∃ k : Nat, k < j ∧ q k = false ∧ xs[k]? = some x ∧ ys[k]? = some y
  | 0, _ => ⟨by simp [kept], fun i x y h => by simp [kept] at h⟩
  | j + 1, h => by
    have hx : xs[j]? = some xs[j] := List.getElem?_eq_getElem (by omega)
    have hy : ys[j]? = some (ys[j]'(by omega)) := List.getElem?_eq_getElem (by omega)
    obtain ⟨ih1, ih2⟩ := kept_pair xs ys q hl j (by omega)
    rw [kept_succ hx, kept_succ hy]
    cases hq : q j
    · refine ⟨by simp [ih1], fun i x y h1 h2 => ?_⟩
      simp only [Bool.false_eq_true, if_false] at h1 h2
      by_cases hi : i < (kept xs q j).length
      · rw [List.getElem?_append_left hi] at h1
        rw [List.getElem?_append_left (by omega)] at h2
        obtain ⟨k, k1, k2⟩ := ih2 i x y h1 h2
        exact ⟨k, by omega, k2⟩
      · rw [List.getElem?_append_right (by omega)] at h1
        rw [List.getElem?_append_right (by omega)] at h2
        rw [← ih1] at h2
        cases hd : i - (kept xs q j).length with
        | zero =>
          rw [hd] at h1 h2
          simp only [List.getElem?_cons_zero] at h1 h2
          exact ⟨j, by omega, hq, by rw [hx, h1], by rw [hy, h2]⟩
        | succ n => rw [hd] at h1; simp at h1
    · refine ⟨by simp [ih1], fun i x y h1 h2 => ?_⟩
      simp only [if_true, List.append_nil] at h1 h2
      obtain ⟨k, k1, k2⟩ := ih2 i x y h1 h2
      exact ⟨k, by omega, k2⟩
theorem kind_ne {w : World} {g p : Nat} {c1 c2 : Array Value} {t1 t2 : TypeId} {f1 f2 : Nat × Nat} (h1 : w.heap[g]? = some (.cells c1 t1 f1)) (h2 : w.heap[p]? = some (.cells c2 t2 f2)) (hn : t1 ≠ t2) : g ≠ p := by
  rintro rfl
  rw [h1] at h2
  cases h2
  exact hn rfl
theorem own_at {w : World} {base : Nat} {e : TypeId} {size : Nat} {v : Value} {n : Nat} {xs : List Value} (h : w.ownsRow base e size v n xs) {b : Nat} (hb : v.ownBlock = some b) : ∃ cur, w.heap[b]? = some (.cells cur e (0, 0)) := by
  rcases h.2 with ⟨q, h0⟩ | ⟨g, cap, cur, q, q1, q2, _⟩
  · rw [q] at hb; cases hb
  · rw [q] at hb
    cases hb
    exact ⟨cur, q2⟩
theorem row_keep {F : Nat → Prop} {w w' : World} {base : Nat} {e : TypeId} {size : Nat} {v : Value} {n : Nat} {xs : List Value} (h : w.ownsRow base e size v n xs) (hf : Fr F w w') (hn : ∀ b, v.ownBlock = some b → ¬ F b) : w'.ownsRow base e size v n xs := by
  refine ⟨h.1, ?_⟩
  rcases h.2 with q | ⟨g, cap, cur, q1, q2, q3, q4⟩
  · exact .inl q
  · exact .inr ⟨g, cap, cur, q1, q2, (hf.keep g (Array.getElem?_eq_some_iff.1 q3).1 (hn g (by rw [q1]; rfl))).trans q3, q4⟩
theorem TabAt.foot {w : World} {D : Nat} {v : Value} {ps : List Nat} {T : List Rq} {most : Int} (h : TabAt w D v ps T most) {b : Nat} (hb : Foot D v ps b) : b < w.heap.size := by
  rcases hb with rfl | hb | hb
  · exact (Array.getElem?_eq_some_iff.1 h.d).1
  · obtain ⟨i, hi⟩ := List.mem_iff_getElem?.1 hb
    obtain ⟨r, _, h2⟩ := h.at hi
    exact h2.lt
  · obtain ⟨cur, h2⟩ := own_at h.row hb
    exact (Array.getElem?_eq_some_iff.1 h2).1
theorem TabAt.keep {F : Nat → Prop} {w w' : World} {D : Nat} {v : Value} {ps : List Nat} {T : List Rq} {most : Int} (h : TabAt w D v ps T most) (hf : Fr F w w') (hn : ∀ b, Foot D v ps b → ¬ F b) : TabAt w' D v ps T most :=
  ⟨(hf.keep D (Array.getElem?_eq_some_iff.1 h.d).1 (hn D (.inl rfl))).trans h.d, row_keep h.row hf fun b hb => hn b (.inr (.inr hb)), h.len, fun i p r hp hr => hf.rq (h.rq i p r hp hr) (hn p (.inr (.inl (List.mem_of_getElem? hp)))), h.nd, h.lo⟩
/-- what the requests at which q holds leave -/
theorem TabAt.drop {w w1 : World} {D : Nat} {v v' : Value} {ps : List Nat} {T : List Rq} {most : Int} (h : TabAt w D v ps T most) (q : Nat → Bool) (hv : ∀ b, v'.ownBlock = some b → v.ownBlock = some b)
    (hrow : w1.ownsRow 0 66 1 v' (kept ps q T.length).length ((kept ps q T.length).map ptr)) (hf : Fr (fun b => v.ownBlock = some b) w w1) : TabAt (w1.setCell ⟨D, 1, none⟩ v') D v' (kept ps q T.length) (kept T q T.length) most ∧ Fr (fun b => v.ownBlock = some b ∨ b = D) w (w1.setCell ⟨D, 1, none⟩ v') := by
  have hD : ¬ v.ownBlock = some D := fun e => by
    obtain ⟨cur, h2⟩ := own_at h.row e
    exact kind_ne h2 h.d (by decide) rfl
  have hd1 : w1.heap[D]? = some (.cells #[.int .i64 most, v] 65 (0, 0)) := (hf.keep D (Array.getElem?_eq_some_iff.1 h.d).1 hD).trans h.d
  have hs : Fr (fun b => b = D) w1 (w1.setCell ⟨D, 1, none⟩ v') := Fr.set w1 ⟨D, 1, none⟩ v' rfl
  obtain ⟨kl, kp⟩ := kept_pair ps T q h.len T.length (by rw [h.len]; exact Nat.le_refl _)
  refine ⟨⟨set_at hd1 1 v', ?_, kl, fun i p r hp hr => ?_, ?_, ?_⟩, (hf.mono fun b _ hb => .inl hb).trans (hs.mono fun b _ hb => .inr hb)⟩
  · rw [← kl]
    exact row_keep hrow hs fun b hb e => hD (e ▸ hv b hb)
  · obtain ⟨k, k1, k2, k3, k4⟩ := kp i p r hp hr
    have hr0 := h.rq k p r k3 k4
    refine hs.rq (hf.rq hr0 fun e => ?_) (fun e => ?_)
    · obtain ⟨cur, h2⟩ := own_at h.row e
      exact kind_ne h2 hr0 (by decide) rfl
    · exact kind_ne hr0 h.d (by decide) e
  · exact (kept_sub ps q T.length (by rw [h.len]; exact Nat.le_refl _)).nodup ((List.take_sublist _ _).nodup h.nd)
  · intro b hb
    rcases hb with e | hb | hb
    · exact h.lo b (.inl e)
    · exact h.lo b (.inr (.inl (List.mem_of_mem_take ((kept_sub ps q T.length (by rw [h.len]; exact Nat.le_refl _)).subset hb))))
    · exact h.lo b (.inr (.inr (hv b hb)))
def grant (T : List Rq) (i : Nat) : List Rq := T.modify i fun r => { r with g := true }
theorem TabAt.grant {w : World} {D : Nat} {v : Value} {ps : List Nat} {T : List Rq} {most : Int} (h : TabAt w D v ps T most) {i p : Nat} (hp : ps[i]? = some p) : TabAt (w.setCell ⟨p, 7, none⟩ (.bool true)) D v ps (Lk.grant T i) most ∧ Fr (fun b => b = p) w (w.setCell ⟨p, 7, none⟩ (.bool true)) := by
  have hs : Fr (fun b => b = p) w (w.setCell ⟨p, 7, none⟩ (.bool true)) := Fr.set w ⟨p, 7, none⟩ _ rfl
  obtain ⟨r, hr, hI⟩ := h.at hp
  refine ⟨⟨(hs.keep D (Array.getElem?_eq_some_iff.1 h.d).1 (kind_ne h.d hI (by decide))).trans h.d, ?_, by rw [h.len]; simp [Lk.grant], fun j p' r' hp' hr' => ?_, h.nd, h.lo⟩, hs⟩
  · rw [show (Lk.grant T i).length = T.length by simp [Lk.grant]]
    exact row_keep h.row hs fun b hb e => by
      obtain ⟨cur, h2⟩ := own_at h.row hb
      exact kind_ne h2 hI (by decide) e
  · by_cases hj : j = i
    · subst hj
      rw [hp] at hp'
      cases hp'
      have : r' = { r with g := true } := by
        have h2 : (Lk.grant T j)[j]? = some { r with g := true } := by simp [Lk.grant, hr]
        rw [h2] at hr'
        exact (Option.some.inj hr').symm
      rw [this]
      exact set_at hI 7 (.bool true)
    · have h2 : (Lk.grant T i)[j]? = T[j]? := by simp [Lk.grant, List.getElem?_modify, Ne.symm hj]
      rw [h2] at hr'
      refine hs.rq (h.rq j p' r' hp' hr') fun e => hj ?_
      subst e
      obtain ⟨a1, a2⟩ := List.getElem?_eq_some_iff.1 hp
      obtain ⟨b1, b2⟩ := List.getElem?_eq_some_iff.1 hp'
      exact (List.getElem_inj h.nd).1 (b2.trans a2.symm)
def readyQ (T : List Rq) (i : Nat) : Bool := match T[i]? with
  | some r => !r.g && mayB T i
  | none => false
def waiting (T : List Rq) : Nat := T.countP fun r => !r.g
/-- those that may be granted are, one by one, the first first -/
def wakeN : Nat → List Rq → List Rq × List Int
  | 0, T => (T, [])
  | n + 1, T => match (List.range T.length).find? (readyQ T) with
    | none => (T, [])
    | some i => ((wakeN n (grant T i)).1, (match T[i]? with | some r => r.tx | none => 0) :: (wakeN n (grant T i)).2)
def wake (T : List Rq) : List Rq × List Int := wakeN (waiting T) T
theorem waiting_grant {T : List Rq} {i : Nat} {r : Rq} (hr : T[i]? = some r) (hg : r.g = false) : waiting T = waiting (grant T i) + 1 := by
  induction T generalizing i with
  | nil => simp at hr
  | cons x T ih =>
    cases i with
    | zero =>
      simp only [List.getElem?_cons_zero, Option.some.injEq] at hr
      subst hr
      simp [waiting, grant, hg]
    | succ i =>
      simp only [List.getElem?_cons_succ] at hr
      have := ih hr
      simp only [waiting, grant, List.modify_succ_cons, List.countP_cons] at this ⊢
      omega
theorem wakeN_none {T : List Rq} (h : ∀ j, j < T.length → readyQ T j = false) : ∀ n, wakeN n T = (T, [])
  | 0 => rfl
  | n + 1 => by
    unfold wakeN
    rw [find_no _ _ h]
theorem wake_step {T : List Rq} {i : Nat} {r : Rq} (hr : T[i]? = some r) (hk : readyQ T i = true) (hl : ∀ j, j < i → readyQ T j = false) : wake T = ((wake (grant T i)).1, r.tx :: (wake (grant T i)).2) := by
  have hg : r.g = false := by
    unfold readyQ at hk
    rw [hr] at hk
    simp at hk
    exact hk.1
  unfold wake
  rw [waiting_grant hr hg]
  conv => lhs; unfold wakeN
  rw [find_at _ _ i (List.getElem?_eq_some_iff.1 hr).1 hk hl]
  simp [hr]
end Lk
end Go.Proofs.YtogcjflneedcfaaDoor

namespace Go.Proofs.YtogcjflneedcfaaDoor
open Go.RowKit Md Go.Shelf Go.Proofs.YtogcjflneedcfaaDoorW.PrintWords
set_option linter.unusedVariables false
set_option linter.unusedSimpArgs false
namespace Lk

theorem info_int : (Tryd.prog.info? 3).map (fun i => (i.zero, i.size, i.bytes)) = some (some (.int .i64 0), 1, 8) := by kernel_rfl
def slotLen : Value → Nat
  | .slice _ n _ => n
  | _ => 0
def LW (D : Nat) (v2 : Value) (ps1 : List Nat) (T1 : List Rq) (most : Int) (F : Nat → Prop) (w : World) (BT : Nat) (wv : Value) (wr : World) : Prop :=
  ∃ (Tc : List Rq) (out : List Int), TabAt wr D v2 ps1 Tc most ∧ wr.ownsRow w.heap.size 3 1 wv out.length (out.map (Value.int .i64)) ∧ wake T1 = ((wake Tc).1, out ++ (wake Tc).2) ∧ out.length + waiting Tc = waiting T1 ∧ Tc.length = T1.length ∧ Fr F w wr ∧ wr.heap[BT]? = some (.cells #[.pointer (some ⟨D, 0, none⟩)] 23 (0, 0))

set_option maxHeartbeats 2000000 in
set_option maxRecDepth 100000 in
theorem drop42_any (D : Nat) (v : Value) (ps : List Nat) (T : List Rq) (most : Int) (q : Nat → Bool) (C0 : Value) (w : World) (gl : Gl w) (ht : TabAt w D v ps T most) (hT : T.length ≤ 2000)
    (hq : ∀ (i p : Nat) (W : World), ps[i]? = some p → Fr (fun b => v.ownBlock = some b) w W → Calls Tryd.prog 42 #[ptr p, C0] W fun e W' => e = .returned (.bool (q i)) ∧ ∃ z, W' = W.drewN z) :
    Calls Tryd.prog 37 #[ptr D, .func (.func 42) #[] #[C0]] w fun e w' => ∃ wv v2 ps2, e = .returned wv ∧ TabAt w' D v2 ps2 (wake (kept T q T.length)).1 most ∧ (∀ b, Foot D v2 ps2 b → Foot D v ps b) ∧ w'.ownsRow w.heap.size 3 1 wv (wake (kept T q T.length)).2.length ((wake (kept T q T.length)).2.map (Value.int .i64)) ∧ Fr (Foot D v ps) w w' := by
  have HS0 := Lib.hid (show St w (w.alloc (.cells #[.pointer (some ⟨D, 0, none⟩)] 23)) from (St.refl gl).alloc _)
  have HBX := Lib.hid (new_at w (.cells #[.pointer (some ⟨D, 0, none⟩)] 23))
  have HT0 := Lib.hid (ht.below HS0.out.b)
  have x0 : (w.alloc (.cells #[.pointer (some ⟨D, 0, none⟩)] 23)).cell? ⟨w.heap.size, 0, none⟩ = some (.pointer (some ⟨D, 0, none⟩)) := (Md.blk_cell HBX.out 0).trans rfl
  have x1 : (w.alloc (.cells #[.pointer (some ⟨D, 0, none⟩)] 23)).cell? ⟨D, 1, none⟩ = some v := (Md.blk_cell HT0.out.d 1).trans rfl
  obtain ⟨a, c, rfl⟩ := own_slice ht.row
  have HQ := Lib.hid hq
  have HT := Lib.hid ht
  have HGL := Lib.hid gl
  clear hq ht gl
  unfold ptr at *
  go_enter Tryd.func37, Tryd.ntmps37
  go_wp2_with fail
  refine Go.Proofs.YtogcjflneedcfaaDoorW.PrintLast.start_ (n := 10) (S := fun v => v.cell? ⟨w.heap.size, 0, none⟩ = some (.pointer (some ⟨D, 0, none⟩)) ∧ v.cell? ⟨D, 1, none⟩ = some (.slice a T.length c)) (ds := [9]) #[false, false, false, false, false, false, false, false, false, false] (by kernel_rfl) rfl rfl ⟨x0, x1⟩ (fun hHeld => ?_)
  refine Go.Proofs.YtogcjflneedcfaaDoorW.PrintLast.take_ (i := 0) (N := some 7) (v := ?_) (a' := ?_) #[true, false, false, false, false, false, false, false, false, false] rfl rfl (by kernel_rfl) (fun _ _ _ h => h) (Or.inl ⟨by rfl, ?_⟩) hHeld ?_ ?_
  rotate_left
  · rintro w' ⟨s0, s1⟩
    go_simp
    with_reducible rfl
  rotate_left
  · simp only [Act.put, List.setIfInBounds_toArray, List.set_cons_zero, List.set_cons_succ, Go.Proofs.YtogcjflneedcfaaDoorW.PrintLast.i64_w, Go.Proofs.YtogcjflneedcfaaDoorW.PrintLast.i32_w]
    rfl
  refine Go.Proofs.YtogcjflneedcfaaDoorW.PrintLast.take_ (i := 1) (N := some 8) (v := ?_) (a' := ?_) #[true, true, false, false, false, false, false, false, false, false] rfl rfl (by kernel_rfl) (fun _ _ _ h => h) (Or.inl ⟨by rfl, ?_⟩) hHeld ?_ ?_
  rotate_left
  · rintro w' ⟨s0, s1⟩
    go_simp
    with_reducible rfl
  rotate_left
  · simp only [Act.put, List.setIfInBounds_toArray, List.set_cons_zero, List.set_cons_succ, Go.Proofs.YtogcjflneedcfaaDoorW.PrintLast.i64_w, Go.Proofs.YtogcjflneedcfaaDoorW.PrintLast.i32_w]
    rfl
  refine Go.Proofs.YtogcjflneedcfaaDoorW.PrintLast.pure_ (i := 2) (N := some 9) (v := ?_) (a' := ?_) #[true, true, true, false, false, false, false, false, false, false] rfl rfl (by kernel_rfl) (fun _ _ _ h => h) (Or.inl ⟨by rfl, ?_⟩) ?_ ?_
  rotate_left
  · intro w'
    go_simp
    with_reducible rfl
  rotate_left
  · simp only [Act.put, List.setIfInBounds_toArray, List.set_cons_zero, List.set_cons_succ, Go.Proofs.YtogcjflneedcfaaDoorW.PrintLast.i64_w, Go.Proofs.YtogcjflneedcfaaDoorW.PrintLast.i32_w]
    rfl
  refine Go.Proofs.YtogcjflneedcfaaDoorW.PrintLast.pure_ (i := 3) (N := some 10) (v := ?_) (a' := ?_) #[true, true, true, true, false, false, false, false, false, false] rfl rfl (by kernel_rfl) (fun _ _ _ h => h) (Or.inl ⟨by rfl, ?_⟩) ?_ ?_
  rotate_left
  · intro w'
    go_simp
    with_reducible rfl
  rotate_left
  · simp only [Act.put, List.setIfInBounds_toArray, List.set_cons_zero, List.set_cons_succ, Go.Proofs.YtogcjflneedcfaaDoorW.PrintLast.i64_w, Go.Proofs.YtogcjflneedcfaaDoorW.PrintLast.i32_w]
    rfl
  refine Go.Proofs.YtogcjflneedcfaaDoorW.PrintLast.take_ (i := 4) (N := some 11) (v := ?_) (a' := ?_) #[true, true, true, true, true, false, false, false, false, false] rfl rfl (by kernel_rfl) (fun _ _ _ h => h) (Or.inl ⟨by rfl, ?_⟩) hHeld ?_ ?_
  rotate_left
  · rintro w' ⟨s0, s1⟩
    go_simp
    with_reducible rfl
  rotate_left
  · simp only [Act.put, List.setIfInBounds_toArray, List.set_cons_zero, List.set_cons_succ, Go.Proofs.YtogcjflneedcfaaDoorW.PrintLast.i64_w, Go.Proofs.YtogcjflneedcfaaDoorW.PrintLast.i32_w]
    rfl
  refine Go.Proofs.YtogcjflneedcfaaDoorW.PrintLast.pure_ (i := 5) (N := some 12) (v := ?_) (a' := ?_) #[true, true, true, true, true, true, false, false, false, false] rfl rfl (by kernel_rfl) (fun _ _ _ h => h) (Or.inl ⟨by rfl, ?_⟩) ?_ ?_
  rotate_left
  · intro w'
    go_simp
    with_reducible rfl
  rotate_left
  · simp only [Act.put, List.setIfInBounds_toArray, List.set_cons_zero, List.set_cons_succ, Go.Proofs.YtogcjflneedcfaaDoorW.PrintLast.i64_w, Go.Proofs.YtogcjflneedcfaaDoorW.PrintLast.i32_w]
    rfl
  refine Go.Proofs.YtogcjflneedcfaaDoorW.PrintLast.one_ (i := 6) (N := some 13) #[true, true, true, true, true, true, true, false, false, false] rfl rfl (by kernel_rfl) (by decide) (fun K hK => ?_)
  refine Go.Proofs.YtogcjflneedcfaaDoorW.PrintLast.goes_ Tryd.func58 (by kernel_rfl) rfl #[.slice a T.length c, .func (.func 42) #[] #[C0]] (by rfl) rfl rfl (by (try simp only [List.map_toArray, List.map_cons, List.map_nil]); first | done | rfl) ?_
  refine (delete42_any (.slice a T.length c) ps T.length q C0 _ (HS0.out.drew).gl (below_row HT0.out.row (Below.refl _ _).drew) (fun b hb => HT0.out.lo b (.inr (.inr hb))) (fun i p W hp hW => HQ.out i p W hp ((Fr.of_below (HS0.out.drew).b).trans hW))).mono ?_
  rintro e w2 ⟨v2, rfl, hvb, hrow2, hfr2⟩
  have HVB := Lib.hid hvb
  have HROW2 := Lib.hid hrow2
  have HFR2 := Lib.hid hfr2
  clear hvb hrow2 hfr2
  obtain ⟨a2, c2, rfl⟩ := own_slice HROW2.out
  refine ⟨_, rfl, ?_⟩
  have hD2 : ¬ Value.ownBlock (.slice a T.length c) = some D := fun e => by obtain ⟨cur, h2⟩ := own_at HT0.out.row e; exact kind_ne h2 HT0.out.d (by decide) rfl
  have hd2 : w2.heap[D]? = some (.cells #[.int .i64 most, .slice a T.length c] 65 (0, 0)) := (HFR2.out.keep D (Array.getElem?_eq_some_iff.1 HT0.out.d).1 hD2).trans HT0.out.d
  have hbt2 : w2.heap[w.heap.size]? = some (.cells #[.pointer (some ⟨D, 0, none⟩)] 23 (0, 0)) := (HFR2.out.keep _ (Array.getElem?_eq_some_iff.1 HBX.out).1 (fun e => by obtain ⟨cur, h2⟩ := own_at HT0.out.row e; exact kind_ne h2 HBX.out (by decide) rfl)).trans HBX.out
  have y0 : w2.cell? ⟨w.heap.size, 0, none⟩ = some (.pointer (some ⟨D, 0, none⟩)) := (Md.blk_cell hbt2 0).trans rfl
  have y1 : w2.cell? ⟨D, 1, none⟩ = some (.slice a T.length c) := (Md.blk_cell hd2 1).trans rfl
  have yf : w2.frozen? ⟨D, 1, none⟩ = false := by simp [World.frozen?, hd2]
  have HBT2 := Lib.hid hbt2
  have HD2 := Lib.hid hd2
  clear hbt2 hd2 hD2
  refine hK.out _ _ ⟨y0, y1⟩ (fun hHeld => ?_)
  clear hK K
  refine Go.Proofs.YtogcjflneedcfaaDoorW.PrintLast.norm_ (a' := ?_) ?_ ?_
  rotate_left
  · show Act.put _ (some 13) _ = _
    simp only [Act.put, List.setIfInBounds_toArray, List.set_cons_zero, List.set_cons_succ, Go.Proofs.YtogcjflneedcfaaDoorW.PrintLast.i64_w, Go.Proofs.YtogcjflneedcfaaDoorW.PrintLast.i32_w]
    rfl
  refine Go.Proofs.YtogcjflneedcfaaDoorW.PrintLast.pure_ (i := 7) (N := some 14) (v := ?_) (a' := ?_) #[true, true, true, true, true, true, true, true, false, false] rfl rfl (by kernel_rfl) (fun _ _ _ h => h) (Or.inl ⟨by rfl, ?_⟩) ?_ ?_
  rotate_left
  · intro w'
    go_simp
    with_reducible rfl
  rotate_left
  · simp only [Act.put, List.setIfInBounds_toArray, List.set_cons_zero, List.set_cons_succ, Go.Proofs.YtogcjflneedcfaaDoorW.PrintLast.i64_w, Go.Proofs.YtogcjflneedcfaaDoorW.PrintLast.i32_w]
    rfl
  refine Go.Proofs.YtogcjflneedcfaaDoorW.PrintLast.pure_ (i := 8) (N := some 15) (v := ?_) (a' := ?_) #[true, true, true, true, true, true, true, true, true, false] rfl rfl (by kernel_rfl) (fun _ _ _ h => h) (Or.inl ⟨by rfl, ?_⟩) ?_ ?_
  rotate_left
  · intro w'
    go_simp
    with_reducible rfl
  rotate_left
  · simp only [Act.put, List.setIfInBounds_toArray, List.set_cons_zero, List.set_cons_succ, Go.Proofs.YtogcjflneedcfaaDoorW.PrintLast.i64_w, Go.Proofs.YtogcjflneedcfaaDoorW.PrintLast.i32_w]
    rfl
  refine Go.Proofs.YtogcjflneedcfaaDoorW.PrintLast.last_ (i := 9) (N := none) #[true, true, true, true, true, true, true, true, true, true] rfl rfl (by kernel_rfl) (by decide) (fun K hK => ?_)
  refine Go.Proofs.YtogcjflneedcfaaDoorW.PrintLast.skip_ (w1 := w2.setCell ⟨D, 1, none⟩ (.slice a2 (kept ps q T.length).length c2)) (by rfl) rfl (by go_simp) ?_
  refine hK.out _ _ ?_
  clear hK K
  refine Go.Proofs.YtogcjflneedcfaaDoorW.PrintLast.done_ (by kernel_rfl) ?_
  have hdr := TabAt.drop (HT0.out.below (Below.refl _ _).drew) q HVB.out HROW2.out HFR2.out
  obtain ⟨ht3, hf3⟩ := hdr
  have HT3 := Lib.hid ht3
  have HF3 := Lib.hid (show Fr (Foot D (.slice a T.length c) ps) w (w2.setCell ⟨D, 1, none⟩ (.slice a2 (kept ps q T.length).length c2)) from (Fr.of_below HS0.out.drew.b).trans (hf3.mono fun b _ hb => hb.elim (fun h => .inr (.inr h)) (fun h => .inl h)))
  have hb3 : (w2.setCell ⟨D, 1, none⟩ (.slice a2 (kept ps q T.length).length c2)).heap[w.heap.size]? = some (.cells #[.pointer (some ⟨D, 0, none⟩)] 23 (0, 0)) := (Below.heap_setCell w2 ⟨D, 1, none⟩ _ _ (fun e => by have := (Array.getElem?_eq_some_iff.1 HT.out.d).1; simp at e; omega)).trans HBT2.out
  have HB3 := Lib.hid hb3
  have HFT := Lib.hid (show ∀ b, Foot D (.slice a2 (kept ps q T.length).length c2) (kept ps q T.length) b → Foot D (.slice a T.length c) ps b from fun b hb => hb.elim .inl fun h => h.elim (fun h => .inr (.inl (List.mem_of_mem_take ((kept_sub ps q T.length (by rw [HT.out.len]; exact Nat.le_refl _)).subset h)))) (fun h => .inr (.inr (HVB.out b h))))
  have hkT : (kept T q T.length).length ≤ 2000 := Nat.le_trans (kept_le _ _ _) hT
  generalize hT1 : kept T q T.length = T1 at *
  have HT1 := Lib.hid hT1
  clear hT1
  generalize kept ps q T.length = ps1 at *
  generalize w2.setCell ⟨D, 1, none⟩ (.slice a2 ps1.length c2) = w3 at *
  clear ht3 hf3 hb3 hHeld x0 x1 y0 y1 yf HBT2 HD2 HFR2 HROW2 HVB HBX HT0 HS0 HQ
  go_wp2_with fail
  go_loopw [5] (fun wv wr => LW D (.slice a2 ps1.length c2) ps1 T1 most (Foot D (.slice a T.length c) ps) w w.heap.size wv wr) (fun wv _ => 3000 - slotLen wv)
  case atStart => exact ⟨T1, [], HT3.out, World.ownsRow_nil _ _ _ _, by simp, by simp, rfl, HF3.out, HB3.out⟩
  case round =>
    obtain ⟨Tc, out, htc, how, hwk, hwn, hlc, hfr, hbt⟩ := hrel
    have HTC := Lib.hid htc
    have HOW := Lib.hid how
    have HWK := Lib.hid hwk
    have HFR := Lib.hid hfr
    have HBT := Lib.hid hbt
    have HLC := Lib.hid hlc
    clear hlc
    have hgl : Gl wr := hfr.gl HGL.out (fun b hb => HT.out.lo b hb)
    have HGR := Lib.hid hgl
    obtain ⟨oa, oc, rfl⟩ := own_slice how
    have z0 : wr.cell? ⟨w.heap.size, 0, none⟩ = some (.pointer (some ⟨D, 0, none⟩)) := (Md.blk_cell hbt 0).trans rfl
    have z1 : wr.cell? ⟨D, 1, none⟩ = some (.slice a2 ps1.length c2) := (Md.blk_cell htc.d 1).trans rfl
    have hrow := htc.row
    rw [← htc.len] at hrow
    have hix := index60_any (.slice a2 ps1.length c2) ps1 ps1.length (readyQ Tc) (.pointer (some ⟨w.heap.size, 0, none⟩)) wr hgl hrow (fun i p W hp hW => by
      obtain ⟨r, hr, _⟩ := htc.at hp
      have hm := drop1_any D w.heap.size _ ps1 Tc most i p r W hW.gl (htc.below hW.b) hp hr ((hW.b.cell (World.block_lt_of_cell? wr _ z0)).trans z0)
      rw [show readyQ Tc i = (!r.g && mayB Tc i) by simp [readyQ, hr]]
      exact hm)
    have hwt : waiting T1 ≤ 2000 := Nat.le_trans List.countP_le_length hkT
    clear htc how hwk hfr hbt hgl hrow
    rcases idx_cases (readyQ Tc) ps1.length with ⟨i, hi, hri, hli, hx⟩ | ⟨hno, hx⟩
    · rw [hx] at hix
      obtain ⟨p, hp⟩ : ∃ p, ps1[i]? = some p := ⟨ps1[i], List.getElem?_eq_getElem hi⟩
      obtain ⟨r, hr, hir⟩ := HTC.out.at hp
      have HWS := Lib.hid (wake_step hr hri hli)
      have hrg : r.g = false := by
        unfold readyQ at hri
        rw [hr] at hri
        simp at hri
        exact hri.1
      have hwg := waiting_grant hr hrg
      have HP := Lib.hid hp
      have HR := Lib.hid hr
      have t1 : decide ((i : Int) < 0) = false := decide_eq_false (by omega)
      have t2 : (i : Int) < ps1.length := by omega
      clear hx hri hli hrg hp hr hir
      have HWG := Lib.hid hwg
      have HWN0 := Lib.hid hwn
      have hbo : out.length + 1 ≤ 2001 := by omega
      clear hwg hwn
      go_wp2_with fail
      refine hix.mono ?_
      clear hix
      rintro e w4 ⟨rfl, hb4⟩
      have ht4 := HTC.out.below hb4.b
      obtain ⟨ga, rfl, hpc⟩ := row_ptr (by have := ht4.row; rw [← ht4.len] at this; exact this) HP.out
      unfold ptr at hpc
      have hir4 := ht4.rq i p r HP.out HR.out
      have hg4 := ht4.grant HP.out
      obtain ⟨hg5, hf5⟩ := hg4
      have y0 : w4.cell? ⟨w.heap.size, 0, none⟩ = some (.pointer (some ⟨D, 0, none⟩)) := (hb4.b.cell (World.block_lt_of_cell? wr _ z0)).trans z0
      have y1 : w4.cell? ⟨D, 1, none⟩ = some (.slice (some ⟨ga, 0, none⟩) ps1.length c2) := (Md.blk_cell ht4.d 1).trans rfl
      have y7 : w4.cell? ⟨p, 7, none⟩ = some (.bool r.g) := hir4.cells.2.2.2.2.2.2.2.1
      have yf : w4.frozen? ⟨p, 7, none⟩ = false := by simp [World.frozen?, show w4.heap[p]? = _ from hir4]
      have hbt4 : w4.heap[w.heap.size]? = some (.cells #[.pointer (some ⟨D, 0, none⟩)] 23 (0, 0)) := (hb4.b.block _ (Array.getElem?_eq_some_iff.1 HBT.out).1).trans HBT.out
      have hbt5 : (w4.setCell ⟨p, 7, none⟩ (.bool true)).heap[w.heap.size]? = some (.cells #[.pointer (some ⟨D, 0, none⟩)] 23 (0, 0)) := (hf5.keep _ (Array.getElem?_eq_some_iff.1 hbt4).1 (kind_ne hbt4 hir4 (by decide))).trans hbt4
      have v0 : (w4.setCell ⟨p, 7, none⟩ (.bool true)).cell? ⟨w.heap.size, 0, none⟩ = some (.pointer (some ⟨D, 0, none⟩)) := (Md.blk_cell hbt5 0).trans rfl
      have v1 : (w4.setCell ⟨p, 7, none⟩ (.bool true)).cell? ⟨D, 1, none⟩ = some (.slice (some ⟨ga, 0, none⟩) ps1.length c2) := (Md.blk_cell hg5.d 1).trans rfl
      obtain ⟨_, h6, hpc5⟩ := row_ptr (by have := hg5.row; rw [← hg5.len] at this; exact this) HP.out
      cases h6
      unfold ptr at hpc5
      have v2 : (w4.setCell ⟨p, 7, none⟩ (.bool true)).cell? ⟨p, 0, none⟩ = some (.int .i64 r.tx) := by
        rw [← (hir4.cells.1)]
        exact World.cell?_setCell_other _ _ _ _ (by intro h; injection h with _ h2; exact absurd h2 (by decide))
      have HG5 := Lib.hid hg5
      have HF5 := Lib.hid (HFR.out.trans ((Fr.of_below hb4.b).trans (hf5.mono (G := Foot D (.slice a T.length c) ps) fun b _ hb => by rw [hb]; exact HFT.out p (.inr (.inl (List.mem_of_getElem? HP.out))))))
      have HBT5 := Lib.hid hbt5
      have hnO : ∀ b, Value.ownBlock (.slice oa out.length oc) = some b → b ≠ p := fun b hb => by
        obtain ⟨cur, h2⟩ := own_at (below_row HOW.out hb4.b) hb
        exact kind_ne h2 hir4 (by decide)
      have HOW5 := Lib.hid (row_keep (below_row HOW.out hb4.b) hf5 hnO)
      have hsz5 : w.heap.size ≤ (w4.setCell ⟨p, 7, none⟩ (.bool true)).heap.size := HF5.out.size
      clear z0 z1 hg5 hf5 hbt4 hbt5 ht4 hb4 hir4 hnO
      go_wp2_with (first | (at_builtin; refine print_append_cells (w0 := w4.setCell ⟨p, 7, none⟩ (.bool true)) (W := w4.setCell ⟨p, 7, none⟩ (.bool true)) w.heap.size rfl _ _ 35 3 (.int .i64 0) 1 8 rfl Tryd.underlying35 info_int rfl (by decide) (by decide) (.slice oa out.length oc) out.length (out.map (Value.int .i64)) [.int .i64 r.tx] rfl (by rw [show (w4.setCell ⟨p, 7, none⟩ (.bool true)).heap.size = w4.heap.size by simp]; rfl) rfl (by intro u hu; rw [List.mem_singleton.1 hu]; rfl) HOW5.out (Below.refl _ _) hsz5 (by omega) ?_) | fail)
      intro v6 w6 how6 hb6 hg6 hat6
      have HO6 := Lib.hid how6
      have hB6 : Fr (fun b => Value.ownBlock (.slice oa out.length oc) = some b) (w4.setCell ⟨p, 7, none⟩ (.bool true)) w6 := ⟨hg6.os, hg6.tape, hg6.output, hg6.size, fun b hb hn => hg6.block b hb (fun e => hn e.symm)⟩
      have hFO : ∀ b, Foot D (.slice (some ⟨ga, 0, none⟩) ps1.length c2) ps1 b → ¬ Value.ownBlock (.slice oa out.length oc) = some b := fun b hb e => by
        have h1 := HT.out.foot (HFT.out b hb)
        have h2 := (HOW5.out.lt b e).1
        omega
      have HT6 := Lib.hid (HG5.out.keep hB6 hFO)
      have HF6 := Lib.hid (show Fr (Foot D (.slice a T.length c) ps) w w6 from ⟨hg6.os.trans HF5.out.os, hg6.tape.trans HF5.out.tape, hg6.output.trans HF5.out.output, Nat.le_trans HF5.out.size hg6.size, fun b hb hn => (hg6.block b (Nat.lt_of_lt_of_le hb HF5.out.size) (fun e => by have h2 := (HOW5.out.lt b e.symm).1; omega)).trans (HF5.out.keep b hb hn)⟩)
      have HBT6 := Lib.hid ((hg6.block w.heap.size (Array.getElem?_eq_some_iff.1 HBT5.out).1 (fun e => by obtain ⟨cur, h2⟩ := own_at HOW5.out e.symm; exact kind_ne h2 HBT5.out (by decide) rfl)).trans HBT5.out)
      obtain ⟨oa6, oc6, rfl⟩ := own_slice how6
      clear how6 hb6 hg6 hat6 hB6 hFO
      go_wp2_with fail
      go_roundw
      case rel =>
        have hwg := HWG.out
        have hwn := HWN0.out
        refine ⟨Lk.grant Tc i, out ++ [r.tx], HT6.out, ?_, ?_, by simp; omega, by simp [Lk.grant]; exact HLC.out, HF6.out, HBT6.out⟩
        · have h9 := HO6.out
          rw [show (out ++ [r.tx]).length = out.length + 1 by simp, List.map_append]
          exact h9
        · rw [HWK.out, HWS.out]
          simp
      case measure =>
        have hwg := HWG.out
        have hwn := HWN0.out
        simp [slotLen]
        omega
    · rw [hx] at hix
      have HWN := Lib.hid (wakeN_none (T := Tc) (fun j hj => hno j (by rw [HTC.out.len]; exact hj)))
      go_wp2_with fail
      refine hix.mono ?_
      rintro e w4 ⟨rfl, hb4⟩
      have HB4 := Lib.hid hb4
      clear hb4 hix
      go_wp2_with fail
      go_ret
      have h7 : wake T1 = (Tc, out) := by rw [HWK.out]; unfold wake; rw [HWN.out]; simp
      rw [HT1.out, h7]
      exact ⟨_, _, ps1, rfl, HTC.out.below HB4.out.b, HFT.out, below_row HOW.out HB4.out.b, HFR.out.trans (Fr.of_below HB4.out.b)⟩

set_option maxHeartbeats 2000000 in
set_option maxRecDepth 100000 in
theorem drop38_any (D : Nat) (v : Value) (ps : List Nat) (T : List Rq) (most : Int) (q : Nat → Bool) (C0 : Value) (w : World) (gl : Gl w) (ht : TabAt w D v ps T most) (hT : T.length ≤ 2000)
    (hq : ∀ (i p : Nat) (W : World), ps[i]? = some p → Fr (fun b => v.ownBlock = some b) w W → Calls Tryd.prog 38 #[ptr p, C0] W fun e W' => e = .returned (.bool (q i)) ∧ ∃ z, W' = W.drewN z) :
    Calls Tryd.prog 37 #[ptr D, .func (.func 38) #[] #[C0]] w fun e w' => ∃ wv v2 ps2, e = .returned wv ∧ TabAt w' D v2 ps2 (wake (kept T q T.length)).1 most ∧ (∀ b, Foot D v2 ps2 b → Foot D v ps b) ∧ w'.ownsRow w.heap.size 3 1 wv (wake (kept T q T.length)).2.length ((wake (kept T q T.length)).2.map (Value.int .i64)) ∧ Fr (Foot D v ps) w w' := by
  have HS0 := Lib.hid (show St w (w.alloc (.cells #[.pointer (some ⟨D, 0, none⟩)] 23)) from (St.refl gl).alloc _)
  have HBX := Lib.hid (new_at w (.cells #[.pointer (some ⟨D, 0, none⟩)] 23))
  have HT0 := Lib.hid (ht.below HS0.out.b)
  have x0 : (w.alloc (.cells #[.pointer (some ⟨D, 0, none⟩)] 23)).cell? ⟨w.heap.size, 0, none⟩ = some (.pointer (some ⟨D, 0, none⟩)) := (Md.blk_cell HBX.out 0).trans rfl
  have x1 : (w.alloc (.cells #[.pointer (some ⟨D, 0, none⟩)] 23)).cell? ⟨D, 1, none⟩ = some v := (Md.blk_cell HT0.out.d 1).trans rfl
  obtain ⟨a, c, rfl⟩ := own_slice ht.row
  have HQ := Lib.hid hq
  have HT := Lib.hid ht
  have HGL := Lib.hid gl
  clear hq ht gl
  unfold ptr at *
  go_enter Tryd.func37, Tryd.ntmps37
  go_wp2_with fail
  refine Go.Proofs.YtogcjflneedcfaaDoorW.PrintLast.start_ (n := 10) (S := fun v => v.cell? ⟨w.heap.size, 0, none⟩ = some (.pointer (some ⟨D, 0, none⟩)) ∧ v.cell? ⟨D, 1, none⟩ = some (.slice a T.length c)) (ds := [9]) #[false, false, false, false, false, false, false, false, false, false] (by kernel_rfl) rfl rfl ⟨x0, x1⟩ (fun hHeld => ?_)
  refine Go.Proofs.YtogcjflneedcfaaDoorW.PrintLast.take_ (i := 0) (N := some 7) (v := ?_) (a' := ?_) #[true, false, false, false, false, false, false, false, false, false] rfl rfl (by kernel_rfl) (fun _ _ _ h => h) (Or.inl ⟨by rfl, ?_⟩) hHeld ?_ ?_
  rotate_left
  · rintro w' ⟨s0, s1⟩
    go_simp
    with_reducible rfl
  rotate_left
  · simp only [Act.put, List.setIfInBounds_toArray, List.set_cons_zero, List.set_cons_succ, Go.Proofs.YtogcjflneedcfaaDoorW.PrintLast.i64_w, Go.Proofs.YtogcjflneedcfaaDoorW.PrintLast.i32_w]
    rfl
  refine Go.Proofs.YtogcjflneedcfaaDoorW.PrintLast.take_ (i := 1) (N := some 8) (v := ?_) (a' := ?_) #[true, true, false, false, false, false, false, false, false, false] rfl rfl (by kernel_rfl) (fun _ _ _ h => h) (Or.inl ⟨by rfl, ?_⟩) hHeld ?_ ?_
  rotate_left
  · rintro w' ⟨s0, s1⟩
    go_simp
    with_reducible rfl
  rotate_left
  · simp only [Act.put, List.setIfInBounds_toArray, List.set_cons_zero, List.set_cons_succ, Go.Proofs.YtogcjflneedcfaaDoorW.PrintLast.i64_w, Go.Proofs.YtogcjflneedcfaaDoorW.PrintLast.i32_w]
    rfl
  refine Go.Proofs.YtogcjflneedcfaaDoorW.PrintLast.pure_ (i := 2) (N := some 9) (v := ?_) (a' := ?_) #[true, true, true, false, false, false, false, false, false, false] rfl rfl (by kernel_rfl) (fun _ _ _ h => h) (Or.inl ⟨by rfl, ?_⟩) ?_ ?_
  rotate_left
  · intro w'
    go_simp
    with_reducible rfl
  rotate_left
  · simp only [Act.put, List.setIfInBounds_toArray, List.set_cons_zero, List.set_cons_succ, Go.Proofs.YtogcjflneedcfaaDoorW.PrintLast.i64_w, Go.Proofs.YtogcjflneedcfaaDoorW.PrintLast.i32_w]
    rfl
  refine Go.Proofs.YtogcjflneedcfaaDoorW.PrintLast.pure_ (i := 3) (N := some 10) (v := ?_) (a' := ?_) #[true, true, true, true, false, false, false, false, false, false] rfl rfl (by kernel_rfl) (fun _ _ _ h => h) (Or.inl ⟨by rfl, ?_⟩) ?_ ?_
  rotate_left
  · intro w'
    go_simp
    with_reducible rfl
  rotate_left
  · simp only [Act.put, List.setIfInBounds_toArray, List.set_cons_zero, List.set_cons_succ, Go.Proofs.YtogcjflneedcfaaDoorW.PrintLast.i64_w, Go.Proofs.YtogcjflneedcfaaDoorW.PrintLast.i32_w]
    rfl
  refine Go.Proofs.YtogcjflneedcfaaDoorW.PrintLast.take_ (i := 4) (N := some 11) (v := ?_) (a' := ?_) #[true, true, true, true, true, false, false, false, false, false] rfl rfl (by kernel_rfl) (fun _ _ _ h => h) (Or.inl ⟨by rfl, ?_⟩) hHeld ?_ ?_
  rotate_left
  · rintro w' ⟨s0, s1⟩
    go_simp
    with_reducible rfl
  rotate_left
  · simp only [Act.put, List.setIfInBounds_toArray, List.set_cons_zero, List.set_cons_succ, Go.Proofs.YtogcjflneedcfaaDoorW.PrintLast.i64_w, Go.Proofs.YtogcjflneedcfaaDoorW.PrintLast.i32_w]
    rfl
  refine Go.Proofs.YtogcjflneedcfaaDoorW.PrintLast.pure_ (i := 5) (N := some 12) (v := ?_) (a' := ?_) #[true, true, true, true, true, true, false, false, false, false] rfl rfl (by kernel_rfl) (fun _ _ _ h => h) (Or.inl ⟨by rfl, ?_⟩) ?_ ?_
  rotate_left
  · intro w'
    go_simp
    with_reducible rfl
  rotate_left
  · simp only [Act.put, List.setIfInBounds_toArray, List.set_cons_zero, List.set_cons_succ, Go.Proofs.YtogcjflneedcfaaDoorW.PrintLast.i64_w, Go.Proofs.YtogcjflneedcfaaDoorW.PrintLast.i32_w]
    rfl
  refine Go.Proofs.YtogcjflneedcfaaDoorW.PrintLast.one_ (i := 6) (N := some 13) #[true, true, true, true, true, true, true, false, false, false] rfl rfl (by kernel_rfl) (by decide) (fun K hK => ?_)
  refine Go.Proofs.YtogcjflneedcfaaDoorW.PrintLast.goes_ Tryd.func58 (by kernel_rfl) rfl #[.slice a T.length c, .func (.func 38) #[] #[C0]] (by rfl) rfl rfl (by (try simp only [List.map_toArray, List.map_cons, List.map_nil]); first | done | rfl) ?_
  refine (delete38_any (.slice a T.length c) ps T.length q C0 _ (HS0.out.drew).gl (below_row HT0.out.row (Below.refl _ _).drew) (fun b hb => HT0.out.lo b (.inr (.inr hb))) (fun i p W hp hW => HQ.out i p W hp ((Fr.of_below (HS0.out.drew).b).trans hW))).mono ?_
  rintro e w2 ⟨v2, rfl, hvb, hrow2, hfr2⟩
  have HVB := Lib.hid hvb
  have HROW2 := Lib.hid hrow2
  have HFR2 := Lib.hid hfr2
  clear hvb hrow2 hfr2
  obtain ⟨a2, c2, rfl⟩ := own_slice HROW2.out
  refine ⟨_, rfl, ?_⟩
  have hD2 : ¬ Value.ownBlock (.slice a T.length c) = some D := fun e => by obtain ⟨cur, h2⟩ := own_at HT0.out.row e; exact kind_ne h2 HT0.out.d (by decide) rfl
  have hd2 : w2.heap[D]? = some (.cells #[.int .i64 most, .slice a T.length c] 65 (0, 0)) := (HFR2.out.keep D (Array.getElem?_eq_some_iff.1 HT0.out.d).1 hD2).trans HT0.out.d
  have hbt2 : w2.heap[w.heap.size]? = some (.cells #[.pointer (some ⟨D, 0, none⟩)] 23 (0, 0)) := (HFR2.out.keep _ (Array.getElem?_eq_some_iff.1 HBX.out).1 (fun e => by obtain ⟨cur, h2⟩ := own_at HT0.out.row e; exact kind_ne h2 HBX.out (by decide) rfl)).trans HBX.out
  have y0 : w2.cell? ⟨w.heap.size, 0, none⟩ = some (.pointer (some ⟨D, 0, none⟩)) := (Md.blk_cell hbt2 0).trans rfl
  have y1 : w2.cell? ⟨D, 1, none⟩ = some (.slice a T.length c) := (Md.blk_cell hd2 1).trans rfl
  have yf : w2.frozen? ⟨D, 1, none⟩ = false := by simp [World.frozen?, hd2]
  have HBT2 := Lib.hid hbt2
  have HD2 := Lib.hid hd2
  clear hbt2 hd2 hD2
  refine hK.out _ _ ⟨y0, y1⟩ (fun hHeld => ?_)
  clear hK K
  refine Go.Proofs.YtogcjflneedcfaaDoorW.PrintLast.norm_ (a' := ?_) ?_ ?_
  rotate_left
  · show Act.put _ (some 13) _ = _
    simp only [Act.put, List.setIfInBounds_toArray, List.set_cons_zero, List.set_cons_succ, Go.Proofs.YtogcjflneedcfaaDoorW.PrintLast.i64_w, Go.Proofs.YtogcjflneedcfaaDoorW.PrintLast.i32_w]
    rfl
  refine Go.Proofs.YtogcjflneedcfaaDoorW.PrintLast.pure_ (i := 7) (N := some 14) (v := ?_) (a' := ?_) #[true, true, true, true, true, true, true, true, false, false] rfl rfl (by kernel_rfl) (fun _ _ _ h => h) (Or.inl ⟨by rfl, ?_⟩) ?_ ?_
  rotate_left
  · intro w'
    go_simp
    with_reducible rfl
  rotate_left
  · simp only [Act.put, List.setIfInBounds_toArray, List.set_cons_zero, List.set_cons_succ, Go.Proofs.YtogcjflneedcfaaDoorW.PrintLast.i64_w, Go.Proofs.YtogcjflneedcfaaDoorW.PrintLast.i32_w]
    rfl
  refine Go.Proofs.YtogcjflneedcfaaDoorW.PrintLast.pure_ (i := 8) (N := some 15) (v := ?_) (a' := ?_) #[true, true, true, true, true, true, true, true, true, false] rfl rfl (by kernel_rfl) (fun _ _ _ h => h) (Or.inl ⟨by rfl, ?_⟩) ?_ ?_
  rotate_left
  · intro w'
    go_simp
    with_reducible rfl
  rotate_left
  · simp only [Act.put, List.setIfInBounds_toArray, List.set_cons_zero, List.set_cons_succ, Go.Proofs.YtogcjflneedcfaaDoorW.PrintLast.i64_w, Go.Proofs.YtogcjflneedcfaaDoorW.PrintLast.i32_w]
    rfl
  refine Go.Proofs.YtogcjflneedcfaaDoorW.PrintLast.last_ (i := 9) (N := none) #[true, true, true, true, true, true, true, true, true, true] rfl rfl (by kernel_rfl) (by decide) (fun K hK => ?_)
  refine Go.Proofs.YtogcjflneedcfaaDoorW.PrintLast.skip_ (w1 := w2.setCell ⟨D, 1, none⟩ (.slice a2 (kept ps q T.length).length c2)) (by rfl) rfl (by go_simp) ?_
  refine hK.out _ _ ?_
  clear hK K
  refine Go.Proofs.YtogcjflneedcfaaDoorW.PrintLast.done_ (by kernel_rfl) ?_
  have hdr := TabAt.drop (HT0.out.below (Below.refl _ _).drew) q HVB.out HROW2.out HFR2.out
  obtain ⟨ht3, hf3⟩ := hdr
  have HT3 := Lib.hid ht3
  have HF3 := Lib.hid (show Fr (Foot D (.slice a T.length c) ps) w (w2.setCell ⟨D, 1, none⟩ (.slice a2 (kept ps q T.length).length c2)) from (Fr.of_below HS0.out.drew.b).trans (hf3.mono fun b _ hb => hb.elim (fun h => .inr (.inr h)) (fun h => .inl h)))
  have hb3 : (w2.setCell ⟨D, 1, none⟩ (.slice a2 (kept ps q T.length).length c2)).heap[w.heap.size]? = some (.cells #[.pointer (some ⟨D, 0, none⟩)] 23 (0, 0)) := (Below.heap_setCell w2 ⟨D, 1, none⟩ _ _ (fun e => by have := (Array.getElem?_eq_some_iff.1 HT.out.d).1; simp at e; omega)).trans HBT2.out
  have HB3 := Lib.hid hb3
  have HFT := Lib.hid (show ∀ b, Foot D (.slice a2 (kept ps q T.length).length c2) (kept ps q T.length) b → Foot D (.slice a T.length c) ps b from fun b hb => hb.elim .inl fun h => h.elim (fun h => .inr (.inl (List.mem_of_mem_take ((kept_sub ps q T.length (by rw [HT.out.len]; exact Nat.le_refl _)).subset h)))) (fun h => .inr (.inr (HVB.out b h))))
  have hkT : (kept T q T.length).length ≤ 2000 := Nat.le_trans (kept_le _ _ _) hT
  generalize hT1 : kept T q T.length = T1 at *
  have HT1 := Lib.hid hT1
  clear hT1
  generalize kept ps q T.length = ps1 at *
  generalize w2.setCell ⟨D, 1, none⟩ (.slice a2 ps1.length c2) = w3 at *
  clear ht3 hf3 hb3 hHeld x0 x1 y0 y1 yf HBT2 HD2 HFR2 HROW2 HVB HBX HT0 HS0 HQ
  go_wp2_with fail
  go_loopw [5] (fun wv wr => LW D (.slice a2 ps1.length c2) ps1 T1 most (Foot D (.slice a T.length c) ps) w w.heap.size wv wr) (fun wv _ => 3000 - slotLen wv)
  case atStart => exact ⟨T1, [], HT3.out, World.ownsRow_nil _ _ _ _, by simp, by simp, rfl, HF3.out, HB3.out⟩
  case round =>
    obtain ⟨Tc, out, htc, how, hwk, hwn, hlc, hfr, hbt⟩ := hrel
    have HTC := Lib.hid htc
    have HOW := Lib.hid how
    have HWK := Lib.hid hwk
    have HFR := Lib.hid hfr
    have HBT := Lib.hid hbt
    have HLC := Lib.hid hlc
    clear hlc
    have hgl : Gl wr := hfr.gl HGL.out (fun b hb => HT.out.lo b hb)
    have HGR := Lib.hid hgl
    obtain ⟨oa, oc, rfl⟩ := own_slice how
    have z0 : wr.cell? ⟨w.heap.size, 0, none⟩ = some (.pointer (some ⟨D, 0, none⟩)) := (Md.blk_cell hbt 0).trans rfl
    have z1 : wr.cell? ⟨D, 1, none⟩ = some (.slice a2 ps1.length c2) := (Md.blk_cell htc.d 1).trans rfl
    have hrow := htc.row
    rw [← htc.len] at hrow
    have hix := index60_any (.slice a2 ps1.length c2) ps1 ps1.length (readyQ Tc) (.pointer (some ⟨w.heap.size, 0, none⟩)) wr hgl hrow (fun i p W hp hW => by
      obtain ⟨r, hr, _⟩ := htc.at hp
      have hm := drop1_any D w.heap.size _ ps1 Tc most i p r W hW.gl (htc.below hW.b) hp hr ((hW.b.cell (World.block_lt_of_cell? wr _ z0)).trans z0)
      rw [show readyQ Tc i = (!r.g && mayB Tc i) by simp [readyQ, hr]]
      exact hm)
    have hwt : waiting T1 ≤ 2000 := Nat.le_trans List.countP_le_length hkT
    clear htc how hwk hfr hbt hgl hrow
    rcases idx_cases (readyQ Tc) ps1.length with ⟨i, hi, hri, hli, hx⟩ | ⟨hno, hx⟩
    · rw [hx] at hix
      obtain ⟨p, hp⟩ : ∃ p, ps1[i]? = some p := ⟨ps1[i], List.getElem?_eq_getElem hi⟩
      obtain ⟨r, hr, hir⟩ := HTC.out.at hp
      have HWS := Lib.hid (wake_step hr hri hli)
      have hrg : r.g = false := by
        unfold readyQ at hri
        rw [hr] at hri
        simp at hri
        exact hri.1
      have hwg := waiting_grant hr hrg
      have HP := Lib.hid hp
      have HR := Lib.hid hr
      have t1 : decide ((i : Int) < 0) = false := decide_eq_false (by omega)
      have t2 : (i : Int) < ps1.length := by omega
      clear hx hri hli hrg hp hr hir
      have HWG := Lib.hid hwg
      have HWN0 := Lib.hid hwn
      have hbo : out.length + 1 ≤ 2001 := by omega
      clear hwg hwn
      go_wp2_with fail
      refine hix.mono ?_
      clear hix
      rintro e w4 ⟨rfl, hb4⟩
      have ht4 := HTC.out.below hb4.b
      obtain ⟨ga, rfl, hpc⟩ := row_ptr (by have := ht4.row; rw [← ht4.len] at this; exact this) HP.out
      unfold ptr at hpc
      have hir4 := ht4.rq i p r HP.out HR.out
      have hg4 := ht4.grant HP.out
      obtain ⟨hg5, hf5⟩ := hg4
      have y0 : w4.cell? ⟨w.heap.size, 0, none⟩ = some (.pointer (some ⟨D, 0, none⟩)) := (hb4.b.cell (World.block_lt_of_cell? wr _ z0)).trans z0
      have y1 : w4.cell? ⟨D, 1, none⟩ = some (.slice (some ⟨ga, 0, none⟩) ps1.length c2) := (Md.blk_cell ht4.d 1).trans rfl
      have y7 : w4.cell? ⟨p, 7, none⟩ = some (.bool r.g) := hir4.cells.2.2.2.2.2.2.2.1
      have yf : w4.frozen? ⟨p, 7, none⟩ = false := by simp [World.frozen?, show w4.heap[p]? = _ from hir4]
      have hbt4 : w4.heap[w.heap.size]? = some (.cells #[.pointer (some ⟨D, 0, none⟩)] 23 (0, 0)) := (hb4.b.block _ (Array.getElem?_eq_some_iff.1 HBT.out).1).trans HBT.out
      have hbt5 : (w4.setCell ⟨p, 7, none⟩ (.bool true)).heap[w.heap.size]? = some (.cells #[.pointer (some ⟨D, 0, none⟩)] 23 (0, 0)) := (hf5.keep _ (Array.getElem?_eq_some_iff.1 hbt4).1 (kind_ne hbt4 hir4 (by decide))).trans hbt4
      have v0 : (w4.setCell ⟨p, 7, none⟩ (.bool true)).cell? ⟨w.heap.size, 0, none⟩ = some (.pointer (some ⟨D, 0, none⟩)) := (Md.blk_cell hbt5 0).trans rfl
      have v1 : (w4.setCell ⟨p, 7, none⟩ (.bool true)).cell? ⟨D, 1, none⟩ = some (.slice (some ⟨ga, 0, none⟩) ps1.length c2) := (Md.blk_cell hg5.d 1).trans rfl
      obtain ⟨_, h6, hpc5⟩ := row_ptr (by have := hg5.row; rw [← hg5.len] at this; exact this) HP.out
      cases h6
      unfold ptr at hpc5
      have v2 : (w4.setCell ⟨p, 7, none⟩ (.bool true)).cell? ⟨p, 0, none⟩ = some (.int .i64 r.tx) := by
        rw [← (hir4.cells.1)]
        exact World.cell?_setCell_other _ _ _ _ (by intro h; injection h with _ h2; exact absurd h2 (by decide))
      have HG5 := Lib.hid hg5
      have HF5 := Lib.hid (HFR.out.trans ((Fr.of_below hb4.b).trans (hf5.mono (G := Foot D (.slice a T.length c) ps) fun b _ hb => by rw [hb]; exact HFT.out p (.inr (.inl (List.mem_of_getElem? HP.out))))))
      have HBT5 := Lib.hid hbt5
      have hnO : ∀ b, Value.ownBlock (.slice oa out.length oc) = some b → b ≠ p := fun b hb => by
        obtain ⟨cur, h2⟩ := own_at (below_row HOW.out hb4.b) hb
        exact kind_ne h2 hir4 (by decide)
      have HOW5 := Lib.hid (row_keep (below_row HOW.out hb4.b) hf5 hnO)
      have hsz5 : w.heap.size ≤ (w4.setCell ⟨p, 7, none⟩ (.bool true)).heap.size := HF5.out.size
      clear z0 z1 hg5 hf5 hbt4 hbt5 ht4 hb4 hir4 hnO
      go_wp2_with (first | (at_builtin; refine print_append_cells (w0 := w4.setCell ⟨p, 7, none⟩ (.bool true)) (W := w4.setCell ⟨p, 7, none⟩ (.bool true)) w.heap.size rfl _ _ 35 3 (.int .i64 0) 1 8 rfl Tryd.underlying35 info_int rfl (by decide) (by decide) (.slice oa out.length oc) out.length (out.map (Value.int .i64)) [.int .i64 r.tx] rfl (by rw [show (w4.setCell ⟨p, 7, none⟩ (.bool true)).heap.size = w4.heap.size by simp]; rfl) rfl (by intro u hu; rw [List.mem_singleton.1 hu]; rfl) HOW5.out (Below.refl _ _) hsz5 (by omega) ?_) | fail)
      intro v6 w6 how6 hb6 hg6 hat6
      have HO6 := Lib.hid how6
      have hB6 : Fr (fun b => Value.ownBlock (.slice oa out.length oc) = some b) (w4.setCell ⟨p, 7, none⟩ (.bool true)) w6 := ⟨hg6.os, hg6.tape, hg6.output, hg6.size, fun b hb hn => hg6.block b hb (fun e => hn e.symm)⟩
      have hFO : ∀ b, Foot D (.slice (some ⟨ga, 0, none⟩) ps1.length c2) ps1 b → ¬ Value.ownBlock (.slice oa out.length oc) = some b := fun b hb e => by
        have h1 := HT.out.foot (HFT.out b hb)
        have h2 := (HOW5.out.lt b e).1
        omega
      have HT6 := Lib.hid (HG5.out.keep hB6 hFO)
      have HF6 := Lib.hid (show Fr (Foot D (.slice a T.length c) ps) w w6 from ⟨hg6.os.trans HF5.out.os, hg6.tape.trans HF5.out.tape, hg6.output.trans HF5.out.output, Nat.le_trans HF5.out.size hg6.size, fun b hb hn => (hg6.block b (Nat.lt_of_lt_of_le hb HF5.out.size) (fun e => by have h2 := (HOW5.out.lt b e.symm).1; omega)).trans (HF5.out.keep b hb hn)⟩)
      have HBT6 := Lib.hid ((hg6.block w.heap.size (Array.getElem?_eq_some_iff.1 HBT5.out).1 (fun e => by obtain ⟨cur, h2⟩ := own_at HOW5.out e.symm; exact kind_ne h2 HBT5.out (by decide) rfl)).trans HBT5.out)
      obtain ⟨oa6, oc6, rfl⟩ := own_slice how6
      clear how6 hb6 hg6 hat6 hB6 hFO
      go_wp2_with fail
      go_roundw
      case rel =>
        have hwg := HWG.out
        have hwn := HWN0.out
        refine ⟨Lk.grant Tc i, out ++ [r.tx], HT6.out, ?_, ?_, by simp; omega, by simp [Lk.grant]; exact HLC.out, HF6.out, HBT6.out⟩
        · have h9 := HO6.out
          rw [show (out ++ [r.tx]).length = out.length + 1 by simp, List.map_append]
          exact h9
        · rw [HWK.out, HWS.out]
          simp
      case measure =>
        have hwg := HWG.out
        have hwn := HWN0.out
        simp [slotLen]
        omega
    · rw [hx] at hix
      have HWN := Lib.hid (wakeN_none (T := Tc) (fun j hj => hno j (by rw [HTC.out.len]; exact hj)))
      go_wp2_with fail
      refine hix.mono ?_
      rintro e w4 ⟨rfl, hb4⟩
      have HB4 := Lib.hid hb4
      clear hb4 hix
      go_wp2_with fail
      go_ret
      have h7 : wake T1 = (Tc, out) := by rw [HWK.out]; unfold wake; rw [HWN.out]; simp
      rw [HT1.out, h7]
      exact ⟨_, _, ps1, rfl, HTC.out.below HB4.out.b, HFT.out, below_row HOW.out HB4.out.b, HFR.out.trans (Fr.of_below HB4.out.b)⟩
end Lk
end Go.Proofs.YtogcjflneedcfaaDoor

namespace Go.Proofs.YtogcjflneedcfaaDoor
open Go.RowKit Md Go.Shelf Go.Proofs.YtogcjflneedcfaaDoorW.PrintWords
set_option linter.unusedVariables false
set_option linter.unusedSimpArgs false
namespace Lk

/-- a table lies at D, in blocks that F tells -/
def Tab (F : Nat → Prop) (w : World) (D : Nat) (most : Int) (T : List Rq) : Prop := ∃ v ps, TabAt w D v ps T most ∧ ∀ b, Foot D v ps b → F b
theorem Tab.below {F : Nat → Prop} {w w' : World} {D : Nat} {most : Int} {T : List Rq} (h : Tab F w D most T) (hb : Below w.heap.size w w') : Tab F w' D most T := by
  obtain ⟨v, ps, h1, h2⟩ := h
  exact ⟨v, ps, h1.below hb, h2⟩
theorem Tab.mono {F G : Nat → Prop} {w : World} {D : Nat} {most : Int} {T : List Rq} (h : Tab F w D most T) (hg : ∀ b, b < w.heap.size → F b → G b) : Tab G w D most T := by
  obtain ⟨v, ps, h1, h2⟩ := h
  exact ⟨v, ps, h1, fun b hb => hg b (h1.foot hb) (h2 b hb)⟩
def endT (T : List Rq) (tx : Int) : List Rq × List Int := wake (T.filter fun r => !(r.tx == tx))
def endS (T : List Rq) (tx : Int) : List Rq × List Int := wake (T.filter fun r => !(r.tx == tx && r.g && r.s))
theorem own_weak {w : World} {b b' : Nat} {e : TypeId} {size : Nat} {v : Value} {n : Nat} {xs : List Value} (h : w.ownsRow b e size v n xs) (hb : b' ≤ b) : w.ownsRow b' e size v n xs := by
  refine ⟨h.1, ?_⟩
  rcases h.2 with q | ⟨g, cap, cur, q1, q2, q3⟩
  · exact .inl q
  · exact .inr ⟨g, cap, cur, q1, Nat.le_trans hb q2, q3⟩
theorem new_no (n : Int) (w : World) (h : n < 1 ∨ 2000 < n) : Calls Tryd.prog 22 #[.int .i64 n] w fun e w' => e = .returned (.tuple #[.pointer none, .int .i64 1]) ∧ w = w' := by
  by_cases h0 : n < 1
  · have h0' : decide (n < 1) = true := decide_eq_true h0
    clear h
    go_enter Tryd.func22, Tryd.ntmps22
    go_wp2
    go_ret2
    exact ⟨rfl, rfl⟩
  · have h0' : decide (n < 1) = false := decide_eq_false h0
    have h1' : decide (2000 < n) = true := decide_eq_true (by omega)
    clear h
    go_enter Tryd.func22, Tryd.ntmps22
    go_wp2
    go_ret2
    exact ⟨rfl, rfl⟩
theorem new_yes (n : Int) (w : World) (gl : Gl w) (h0 : 1 ≤ n) (h1 : n ≤ 2000) : Calls Tryd.prog 22 #[.int .i64 n] w fun e w' => e = .returned (.tuple #[ptr w.heap.size, .int .i64 0]) ∧ Tab (fun b => w.heap.size ≤ b) w' w.heap.size n [] ∧ St w w' := by
  have h0' : decide (n < 1) = false := decide_eq_false (by omega)
  have h1' : decide (2000 < n) = false := decide_eq_false (by omega)
  have hs : St w (w.alloc (.cells #[.int .i64 n, .slice none 0 0] 65)) := (St.refl gl).alloc _
  have ht : TabAt (w.alloc (.cells #[.int .i64 n, .slice none 0 0] 65)) w.heap.size (.slice none 0 0) [] [] n :=
    ⟨new_at w _, World.ownsRow_nil _ _ _ _, rfl, fun i p r h => by simp at h, List.nodup_nil, fun b hb => by rcases hb with rfl | hb | hb; exact gl.size; simp at hb; cases hb⟩
  unfold ptr
  go_enter Tryd.func22, Tryd.ntmps22
  go_wp2
  go_ret2
  exact ⟨rfl, ⟨_, _, ht, fun b hb => by rcases hb with rfl | hb | hb; exact Nat.le_refl _; simp at hb; cases hb⟩, hs⟩
theorem end_nil (tx : Int) (w : World) (gl : Gl w) : Calls Tryd.prog 18 #[.pointer none, .int .i64 tx] w fun e w' => e = .returned (.slice none 0 0) ∧ St w w' := by
  have hs := (St.refl gl).alloc (.cells #[.int .i64 tx] 3)
  go_enter Tryd.func18, Tryd.ntmps18
  go_wp2
  go_ret
  exact ⟨rfl, hs⟩
theorem endshort_nil (tx : Int) (w : World) (gl : Gl w) : Calls Tryd.prog 16 #[.pointer none, .int .i64 tx] w fun e w' => e = .returned (.slice none 0 0) ∧ St w w' := by
  have hs := (St.refl gl).alloc (.cells #[.int .i64 tx] 3)
  go_enter Tryd.func16, Tryd.ntmps16
  go_wp2
  go_ret
  exact ⟨rfl, hs⟩

set_option maxRecDepth 100000 in
theorem end_any (F : Nat → Prop) (D : Nat) (T : List Rq) (most : Int) (tx : Int) (w : World) (gl : Gl w) (ht : Tab F w D most T) (hT : T.length ≤ 2000) :
    Calls Tryd.prog 18 #[ptr D, .int .i64 tx] w fun e w' => ∃ wv, e = .returned wv ∧ Tab F w' D most (endT T tx).1 ∧ w'.ownsRow w.heap.size 3 1 wv (endT T tx).2.length ((endT T tx).2.map (Value.int .i64)) ∧ Fr F w w' ∧ Gl w' := by
  obtain ⟨v, ps, ht, hF⟩ := ht
  have hs : St w (w.alloc (.cells #[.int .i64 tx] 3)) := (St.refl gl).alloc _
  have hbx := new_at w (.cells #[.int .i64 tx] 3)
  have ht2 := ht.below hs.b
  have hvlt : ∀ b, v.ownBlock = some b → b < w.heap.size := fun b hb => ht.foot (.inr (.inr hb))
  have hd := drop42_any D v ps T most (fun i => match T[i]? with | some r => r.tx == tx | none => false) (ptr w.heap.size) _ hs.gl ht2 hT (fun i p W hp hW => by
    obtain ⟨r, h1, h2⟩ := ht2.at hp
    have h3 : W.cell? ⟨w.heap.size, 0, none⟩ = some (.int .i64 tx) := (Md.blk_cell ((hW.keep w.heap.size (by simp) (fun e => by have := hvlt _ e; omega)).trans hbx) 0).trans rfl
    have h4 : IsRq W p r := hW.rq h2 (fun e => by obtain ⟨cur, h5⟩ := own_at ht2.row e; exact kind_ne h5 h2 (by decide) rfl)
    simp only [h1]
    exact end1_any p w.heap.size r tx W h4 h3)
  have hk : kept T (fun i => match T[i]? with | some r => r.tx == tx | none => false) T.length = T.filter fun r => !(r.tx == tx) := by
    rw [kept_filter T (fun r => r.tx == tx) _ (fun i x hx => by simp only [hx]) T.length (Nat.le_refl _), List.take_length]
  rw [hk, show wake (T.filter fun r => !(r.tx == tx)) = endT T tx from rfl] at hd
  have HS := Lib.hid hs
  have HT := Lib.hid ht
  have HF := Lib.hid hF
  clear hk hbx ht2 hvlt ht hF
  unfold ptr at *
  go_enter Tryd.func18, Tryd.ntmps18
  go_wp2_with fail
  refine hd.mono ?_
  clear hd
  rintro e w2 ⟨wv, v2, ps2, rfl, h1, h2, h3, h4⟩
  have H1 := Lib.hid h1
  have H2 := Lib.hid h2
  have H3 := Lib.hid h3
  have H4 := Lib.hid h4
  obtain ⟨wa, wc, rfl⟩ := own_slice h3
  clear h1 h2 h3 h4
  go_wp2_with fail
  go_ret
  have h5 : Fr (Foot D v ps) w w2 := (Fr.of_below HS.out.b).trans H4.out
  exact ⟨_, rfl, ⟨v2, ps2, H1.out, fun b hb => HF.out b (H2.out b hb)⟩, own_weak H3.out (by simp), h5.mono (fun b _ hb => HF.out b hb), h5.gl gl (fun b hb => HT.out.lo b hb)⟩

set_option maxRecDepth 100000 in
theorem endshort_any (F : Nat → Prop) (D : Nat) (T : List Rq) (most : Int) (tx : Int) (w : World) (gl : Gl w) (ht : Tab F w D most T) (hT : T.length ≤ 2000) :
    Calls Tryd.prog 16 #[ptr D, .int .i64 tx] w fun e w' => ∃ wv, e = .returned wv ∧ Tab F w' D most (endS T tx).1 ∧ w'.ownsRow w.heap.size 3 1 wv (endS T tx).2.length ((endS T tx).2.map (Value.int .i64)) ∧ Fr F w w' ∧ Gl w' := by
  obtain ⟨v, ps, ht, hF⟩ := ht
  have hs : St w (w.alloc (.cells #[.int .i64 tx] 3)) := (St.refl gl).alloc _
  have hbx := new_at w (.cells #[.int .i64 tx] 3)
  have ht2 := ht.below hs.b
  have hvlt : ∀ b, v.ownBlock = some b → b < w.heap.size := fun b hb => ht.foot (.inr (.inr hb))
  have hd := drop38_any D v ps T most (fun i => match T[i]? with | some r => r.tx == tx && r.g && r.s | none => false) (ptr w.heap.size) _ hs.gl ht2 hT (fun i p W hp hW => by
    obtain ⟨r, h1, h2⟩ := ht2.at hp
    have h3 : W.cell? ⟨w.heap.size, 0, none⟩ = some (.int .i64 tx) := (Md.blk_cell ((hW.keep w.heap.size (by simp) (fun e => by have := hvlt _ e; omega)).trans hbx) 0).trans rfl
    have h4 : IsRq W p r := hW.rq h2 (fun e => by obtain ⟨cur, h5⟩ := own_at ht2.row e; exact kind_ne h5 h2 (by decide) rfl)
    simp only [h1]
    exact endshort1_any p w.heap.size r tx W h4 h3)
  have hk : kept T (fun i => match T[i]? with | some r => r.tx == tx && r.g && r.s | none => false) T.length = T.filter fun r => !(r.tx == tx && r.g && r.s) := by
    rw [kept_filter T (fun r => r.tx == tx && r.g && r.s) _ (fun i x hx => by simp only [hx]) T.length (Nat.le_refl _), List.take_length]
  rw [hk, show wake (T.filter fun r => !(r.tx == tx && r.g && r.s)) = endS T tx from rfl] at hd
  have HS := Lib.hid hs
  have HT := Lib.hid ht
  have HF := Lib.hid hF
  clear hk hbx ht2 hvlt ht hF
  unfold ptr at *
  go_enter Tryd.func16, Tryd.ntmps16
  go_wp2_with fail
  refine hd.mono ?_
  clear hd
  rintro e w2 ⟨wv, v2, ps2, rfl, h1, h2, h3, h4⟩
  have H1 := Lib.hid h1
  have H2 := Lib.hid h2
  have H3 := Lib.hid h3
  have H4 := Lib.hid h4
  obtain ⟨wa, wc, rfl⟩ := own_slice h3
  clear h1 h2 h3 h4
  go_wp2_with fail
  go_ret
  have h5 : Fr (Foot D v ps) w w2 := (Fr.of_below HS.out.b).trans H4.out
  exact ⟨_, rfl, ⟨v2, ps2, H1.out, fun b hb => HF.out b (H2.out b hb)⟩, own_weak H3.out (by simp), h5.mono (fun b _ hb => HF.out b hb), h5.gl gl (fun b hb => HT.out.lo b hb)⟩

def rqs (T : List Rq) : List Value := (T.map fun r => r.arr.toList).flatten
theorem rqs_snoc (T : List Rq) (r : Rq) : rqs (T ++ [r]) = rqs T ++ r.arr.toList := by simp [rqs]
theorem list_nil (w : World) : Calls Tryd.prog 13 #[.pointer none] w fun e w' => e = .returned (.slice none 0 0) ∧ w = w' := by
  go_enter Tryd.func13, Tryd.ntmps13
  go_wp2
  go_ret
  exact ⟨rfl, rfl⟩
theorem info_rq : (Tryd.prog.info? 33).map (fun i => (i.zero, i.size, i.bytes)) = some (some (.agg #[.int .i64 0, .int .i64 0, .string ⟨#[]⟩, .string ⟨#[]⟩, .string ⟨#[]⟩, .bool false, .int .i64 0, .bool false, .bool false]), 9, 88) := by kernel_rfl
end Lk
end Go.Proofs.YtogcjflneedcfaaDoor

namespace Go.Proofs.YtogcjflneedcfaaDoor
open Go.RowKit Md Go.Shelf Go.Proofs.YtogcjflneedcfaaDoorW.PrintWords
set_option linter.unusedVariables false
set_option linter.unusedSimpArgs false
namespace Lk

def LL (T : List Rq) (w : World) (lv i : Value) (wr : World) : Prop := ∃ k : Nat, i = .int .i64 k ∧ k ≤ T.length ∧ wr.ownsRow w.heap.size 33 9 lv k (rqs (T.take k)) ∧ Below w.heap.size w wr
set_option maxHeartbeats 2000000 in
set_option maxRecDepth 100000 in
theorem list_any (F : Nat → Prop) (D : Nat) (T : List Rq) (most : Int) (w : World) (gl : Gl w) (ht : Tab F w D most T) (hT : T.length ≤ 2000) :
    Calls Tryd.prog 13 #[ptr D] w fun e w' => ∃ lv, e = .returned lv ∧ w'.ownsRow w.heap.size 33 9 lv T.length (rqs T) ∧ St w w' := by
  obtain ⟨v, ps, ht, hF⟩ := ht
  obtain ⟨a, c, rfl⟩ := own_slice ht.row
  have x1 : w.cell? ⟨D, 1, none⟩ = some (.slice a T.length c) := (Md.blk_cell ht.d 1).trans rfl
  have HT := Lib.hid ht
  have HL := Lib.hid ht.len
  clear ht hF
  unfold ptr
  go_enter Tryd.func13, Tryd.ntmps13
  go_wp2_with fail
  clear x1
  go_loopw [3, 13] (fun lv i wr => LL T w lv i wr) (fun _ i _ => T.length - (intOf i).toNat)
  case atStart => exact ⟨0, rfl, Nat.zero_le _, World.ownsRow_nil _ _ _ _, Below.refl _ _⟩
  case round =>
    obtain ⟨k, rfl, hk, how, hb⟩ := hrel
    obtain ⟨la, lc, rfl⟩ := own_slice how
    have HOW := Lib.hid how
    have HB := Lib.hid hb
    clear how hb
    by_cases hlt : k < T.length
    · have t1 : decide (k < T.length) = true := decide_eq_true hlt
      have t2 : (k : Int) < T.length := by omega
      obtain ⟨p, hp⟩ : ∃ p, ps[k]? = some p := ⟨ps[k]'(by have := HL.out; omega), List.getElem?_eq_getElem (by have := HL.out; omega)⟩
      have ht2 := HT.out.below HB.out
      obtain ⟨g, rfl, hpc⟩ := row_ptr ht2.row hp
      obtain ⟨r, hr, hir⟩ := ht2.at hp
      obtain ⟨c0, c1, c2, c3, c4, c5, c6, c7, c8⟩ := hir.cells
      unfold ptr at hpc
      have HR := Lib.hid (show T.take (k + 1) = T.take k ++ [r] by rw [List.take_add_one, hr]; rfl)
      clear ht2 hir hp hr
      go_wp2_with (at_builtin; refine print_append_cells (w0 := w) (W := wr) w.heap.size rfl _ _ 26 33 _ 9 88 rfl Tryd.underlying26 info_rq rfl (by decide) (by decide) (.slice la k lc) k (rqs (T.take k)) r.arr.toList rfl rfl rfl (by intro u hu; simp only [Rq.arr, List.mem_cons, List.not_mem_nil, or_false] at hu; rcases hu with rfl | rfl | rfl | rfl | rfl | rfl | rfl | rfl | rfl <;> rfl) HOW.out HB.out HB.out.size (by omega) ?_)
      intro v6 w6 how6 hb6 hg6 hat6
      have HO6 := Lib.hid how6
      have HB6 := Lib.hid hb6
      obtain ⟨oa6, oc6, rfl⟩ := own_slice how6
      clear how6 hb6 hg6 hat6 hpc c0 c1 c2 c3 c4 c5 c6 c7 c8
      go_wp2_with fail
      go_roundw
      case rel => exact ⟨k + 1, by go_num, by omega, by rw [HR.out, rqs_snoc]; exact HO6.out, HB6.out⟩
      case measure => simp [intOf]; omega
    · have t1 : decide (k < T.length) = false := decide_eq_false hlt
      have t2 : ¬ ((k : Int) < T.length) := by omega
      obtain rfl : k = T.length := by omega
      go_wp2_with fail
      go_ret
      exact ⟨_, rfl, by have := HOW.out; rw [List.take_length] at this; exact this, HB.out, gl⟩
end Lk
end Go.Proofs.YtogcjflneedcfaaDoor

namespace Go.Proofs.YtogcjflneedcfaaDoor
open Go.RowKit Md Go.Shelf Go.Proofs.YtogcjflneedcfaaDoorW.PrintWords
set_option linter.unusedVariables false
set_option linter.unusedSimpArgs false
namespace Lk

theorem TabAt.put {w : World} {D : Nat} {v : Value} {ps : List Nat} {T : List Rq} {most : Int} (h : TabAt w D v ps T most) {i p : Nat} (hp : ps[i]? = some p) (j : Nat) (u : Value) (f : Rq → Rq) (hf : ∀ r, T[i]? = some r → (f r).arr = r.arr.setIfInBounds j u) : TabAt (w.setCell ⟨p, j, none⟩ u) D v ps (T.modify i f) most ∧ Fr (fun b => b = p) w (w.setCell ⟨p, j, none⟩ u) := by
  have hs : Fr (fun b => b = p) w (w.setCell ⟨p, j, none⟩ u) := Fr.set w ⟨p, j, none⟩ _ rfl
  obtain ⟨r, hr, hI⟩ := h.at hp
  refine ⟨⟨(hs.keep D (Array.getElem?_eq_some_iff.1 h.d).1 (kind_ne h.d hI (by decide))).trans h.d, ?_, by rw [h.len]; simp, fun k p' r' hp' hr' => ?_, h.nd, h.lo⟩, hs⟩
  · rw [show (T.modify i f).length = T.length by simp]
    exact row_keep h.row hs fun b hb e => by
      obtain ⟨cur, h2⟩ := own_at h.row hb
      exact kind_ne h2 hI (by decide) e
  · by_cases hj : k = i
    · subst hj
      rw [hp] at hp'
      cases hp'
      have : r' = f r := by
        have h2 : (T.modify k f)[k]? = some (f r) := by simp [hr]
        rw [h2] at hr'
        exact (Option.some.inj hr').symm
      rw [this]
      unfold IsRq
      rw [hf r hr]
      exact set_at hI j u
    · have h2 : (T.modify i f)[k]? = T[k]? := by simp [List.getElem?_modify, Ne.symm hj]
      rw [h2] at hr'
      refine hs.rq (h.rq k p' r' hp' hr') fun e => hj ?_
      subst e
      obtain ⟨a1, a2⟩ := List.getElem?_eq_some_iff.1 hp
      obtain ⟨b1, b2⟩ := List.getElem?_eq_some_iff.1 hp'
      exact (List.getElem_inj h.nd).1 (b2.trans a2.symm)
theorem row_nodup_add {ps : List Nat} {p : Nat} (h : ps.Nodup) (hp : p ∉ ps) : (ps ++ [p]).Nodup := by
  rw [List.nodup_append]
  exact ⟨h, by simp, fun a ha b hb => by rw [List.mem_singleton.1 hb]; exact fun e => hp (e ▸ ha)⟩
/-- a request more -/
theorem TabAt.add {w w1 : World} {D p : Nat} {v v1 : Value} {ps : List Nat} {T : List Rq} {most : Int} {r : Rq} (h : TabAt w D v ps T most) (hp : IsRq w p r) (hn : ¬ Foot D v ps p) (hp2 : 2 ≤ p)
    (hrow : w1.ownsRow 0 66 1 v1 (T.length + 1) ((ps.map ptr) ++ [ptr p])) (hg : w.grownBy w1 v.ownBlock) (hv : v1.ownBlock = v.ownBlock ∨ ∃ b, v1.ownBlock = some b ∧ w.heap.size ≤ b) :
    TabAt (w1.setCell ⟨D, 1, none⟩ v1) D v1 (ps ++ [p]) (T ++ [r]) most ∧ Fr (fun b => v.ownBlock = some b ∨ b = D) w (w1.setCell ⟨D, 1, none⟩ v1) ∧ (∀ b, Foot D v1 (ps ++ [p]) b → Foot D v ps b ∨ b = p ∨ w.heap.size ≤ b) := by
  have hD : ¬ v.ownBlock = some D := fun e => by
    obtain ⟨cur, h2⟩ := own_at h.row e
    exact kind_ne h2 h.d (by decide) rfl
  have hf : Fr (fun b => v.ownBlock = some b) w w1 := ⟨hg.os, hg.tape, hg.output, hg.size, fun b hb hn => hg.block b hb fun e => hn e.symm⟩
  have hd1 : w1.heap[D]? = some (.cells #[.int .i64 most, v] 65 (0, 0)) := (hf.keep D (Array.getElem?_eq_some_iff.1 h.d).1 hD).trans h.d
  have hs : Fr (fun b => b = D) w1 (w1.setCell ⟨D, 1, none⟩ v1) := Fr.set w1 ⟨D, 1, none⟩ v1 rfl
  have hDs := (Array.getElem?_eq_some_iff.1 h.d).1
  have hft : ∀ b, Foot D v1 (ps ++ [p]) b → Foot D v ps b ∨ b = p ∨ w.heap.size ≤ b := fun b hb => by
    rcases hb with e | hb | hb
    · exact .inl (.inl e)
    · rcases List.mem_append.1 hb with hb | hb
      · exact .inl (.inr (.inl hb))
      · exact .inr (.inl (List.mem_singleton.1 hb))
    · rcases hv with e | ⟨b', e, hb'⟩
      · exact .inl (.inr (.inr (e ▸ hb)))
      · rw [e] at hb
        cases hb
        exact .inr (.inr hb')
  refine ⟨⟨set_at hd1 1 v1, ?_, by simp [h.len], fun i p' r' hp' hr' => ?_, row_nodup_add h.nd fun q => hn (.inr (.inl q)), fun b hb => ?_⟩, (hf.mono fun b _ hb => .inl hb).trans (hs.mono fun b _ hb => .inr hb), hft⟩
  · have h1 : w1.ownsRow 0 66 1 v1 (T ++ [r]).length ((ps ++ [p]).map ptr) := by
      rw [List.length_append, List.map_append]
      exact hrow
    refine row_keep h1 hs fun b hb e => ?_
    obtain ⟨cur, h2⟩ := own_at h1 hb
    exact kind_ne h2 hd1 (by decide) e
  · have hi : IsRq w p' r' ∧ ¬ v.ownBlock = some p' ∧ p' ≠ D := by
      by_cases hi : i < ps.length
      · rw [List.getElem?_append_left hi] at hp'
        rw [List.getElem?_append_left (by rw [← h.len]; exact hi)] at hr'
        have h0 := h.rq i p' r' hp' hr'
        exact ⟨h0, fun e => by obtain ⟨cur, h2⟩ := own_at h.row e; exact kind_ne h2 h0 (by decide) rfl, kind_ne h0 h.d (by decide)⟩
      · rw [List.getElem?_append_right (by omega)] at hp'
        rw [List.getElem?_append_right (by rw [← h.len]; omega)] at hr'
        have h5 : i - ps.length = 0 := by
          have := (List.getElem?_eq_some_iff.1 hp').1
          simp at this
          omega
        rw [h5] at hp'
        rw [← h.len, h5] at hr'
        simp at hp' hr'
        subst hp' hr'
        exact ⟨hp, fun e => hn (.inr (.inr e)), fun e => hn (.inl e)⟩
    exact hs.rq (hf.rq hi.1 hi.2.1) hi.2.2
  · rcases hft b hb with hb | rfl | hb
    · exact h.lo b hb
    · exact hp2
    · have := h.lo D (.inl rfl)
      omega
def shortF (tx : Int) (ob : Ob) (m : Int) (sh : Bool) (g : Rq) : Rq := if !sh && holds g tx ob m && obEq g.o ob && g.m == m then { g with s := false } else g
/-- a lock is asked for -/
def askT (most : Int) (T : List Rq) (tx : Int) (ob : Ob) (m : Int) (sh : Bool) : List Rq × Bool × Int :=
  if tx < 1 ∨ pl ob.s ob.t ob.l ob.u ob.e = false ∨ m = 0 ∨ rt m = false ∨ waitsB T tx = true then (T, false, 114)
  else if hasB T tx ob m = true then (T.map (shortF tx ob m sh), true, 0)
  else if most ≤ T.length then (T, false, 112)
  else (T ++ [⟨tx, ob, m, mayB (T ++ [⟨tx, ob, m, false, sh⟩]) T.length, sh⟩], mayB (T ++ [⟨tx, ob, m, false, sh⟩]) T.length, 0)
theorem place_b (ob : Ob) (x : Bool) (h : pl ob.s ob.t ob.l ob.u ob.e = x) (w : World) (gl : Gl w) : Calls Tryd.prog 45 #[.agg #[.int .i64 ob.s, .string ob.t, .string ob.l, .string ob.u, .bool ob.e]] w fun e w' => e = .returned (.bool x) ∧ St w w' := h ▸ place_any _ _ _ _ _ w (St.refl gl)
theorem waits_b (x : Bool) (D : Nat) (v : Value) (ps : List Nat) (T : List Rq) (most : Int) (tx : Int) (h : waitsB T tx = x) (w : World) (gl : Gl w) (ht : TabAt w D v ps T most) : Calls Tryd.prog 20 #[.pointer (some ⟨D, 0, none⟩), .int .i64 tx] w fun e w' => e = .returned (.bool x) ∧ St w w' := h ▸ waits_any D v ps T most tx w gl ht
theorem has_b (x : Bool) (D : Nat) (v : Value) (ps : List Nat) (T : List Rq) (most : Int) (tx : Int) (ob : Ob) (m : Int) (h : hasB T tx ob m = x) (w : World) (gl : Gl w) (ht : TabAt w D v ps T most) : Calls Tryd.prog 17 #[.pointer (some ⟨D, 0, none⟩), .int .i64 tx, .agg #[.int .i64 ob.s, .string ob.t, .string ob.l, .string ob.u, .bool ob.e], .int .i64 m] w fun e w' => e = .returned (.bool x) ∧ St w w' := h ▸ has_any D v ps T most tx ob m w gl ht
theorem holds_b (x : Bool) (p : Nat) (g : Rq) (tx : Int) (ob : Ob) (m : Int) (h : holds g tx ob m = x) (w : World) (gl : Gl w) (hp : IsRq w p g) : Calls Tryd.prog 41 #[.pointer (some ⟨p, 0, none⟩), .int .i64 tx, .agg #[.int .i64 ob.s, .string ob.t, .string ob.l, .string ob.u, .bool ob.e], .int .i64 m] w fun e w' => e = .returned (.bool x) ∧ St w w' := h ▸ holds_any p g tx ob m w gl hp
end Lk
end Go.Proofs.YtogcjflneedcfaaDoor

namespace Go.Proofs.YtogcjflneedcfaaDoor
open Go.RowKit Md Go.Shelf Go.Proofs.YtogcjflneedcfaaDoorW.PrintWords
set_option linter.unusedVariables false
set_option linter.unusedSimpArgs false
namespace Lk
theorem held9 {w wr v v' : World} {p : Nat} {rg : Rq} {ob : Ob} (k : St v v') (h : St wr v ∧ v.cell? ⟨p, 1, none⟩ = some (.int .i64 rg.o.s) ∧ v.cell? ⟨p, 2, none⟩ = some (.string rg.o.t) ∧ v.cell? ⟨p, 3, none⟩ = some (.string rg.o.l) ∧ v.cell? ⟨p, 4, none⟩ = some (.string rg.o.u) ∧ v.cell? ⟨p, 5, none⟩ = some (.bool rg.o.e) ∧ v.cell? ⟨p, 6, none⟩ = some (.int .i64 rg.m) ∧ v.cell? ⟨w.heap.size, 0, none⟩ = some (.int .i64 ob.s) ∧ v.cell? ⟨w.heap.size, 1, none⟩ = some (.string ob.t) ∧ v.cell? ⟨w.heap.size, 2, none⟩ = some (.string ob.l) ∧ v.cell? ⟨w.heap.size, 3, none⟩ = some (.string ob.u) ∧ v.cell? ⟨w.heap.size, 4, none⟩ = some (.bool ob.e)) : St wr v' ∧ v'.cell? ⟨p, 1, none⟩ = some (.int .i64 rg.o.s) ∧ v'.cell? ⟨p, 2, none⟩ = some (.string rg.o.t) ∧ v'.cell? ⟨p, 3, none⟩ = some (.string rg.o.l) ∧ v'.cell? ⟨p, 4, none⟩ = some (.string rg.o.u) ∧ v'.cell? ⟨p, 5, none⟩ = some (.bool rg.o.e) ∧ v'.cell? ⟨p, 6, none⟩ = some (.int .i64 rg.m) ∧ v'.cell? ⟨w.heap.size, 0, none⟩ = some (.int .i64 ob.s) ∧ v'.cell? ⟨w.heap.size, 1, none⟩ = some (.string ob.t) ∧ v'.cell? ⟨w.heap.size, 2, none⟩ = some (.string ob.l) ∧ v'.cell? ⟨w.heap.size, 3, none⟩ = some (.string ob.u) ∧ v'.cell? ⟨w.heap.size, 4, none⟩ = some (.bool ob.e) := by
  obtain ⟨ss, q0, q1, q2, q3, q4, q5, q6, q7, q8, q9, q10⟩ := h
  exact ⟨ss.to k, (k.b.cell (World.block_lt_of_cell? v _ q0)).trans q0, (k.b.cell (World.block_lt_of_cell? v _ q1)).trans q1, (k.b.cell (World.block_lt_of_cell? v _ q2)).trans q2, (k.b.cell (World.block_lt_of_cell? v _ q3)).trans q3, (k.b.cell (World.block_lt_of_cell? v _ q4)).trans q4, (k.b.cell (World.block_lt_of_cell? v _ q5)).trans q5, (k.b.cell (World.block_lt_of_cell? v _ q6)).trans q6, (k.b.cell (World.block_lt_of_cell? v _ q7)).trans q7, (k.b.cell (World.block_lt_of_cell? v _ q8)).trans q8, (k.b.cell (World.block_lt_of_cell? v _ q9)).trans q9, (k.b.cell (World.block_lt_of_cell? v _ q10)).trans q10⟩

theorem ask_nil (tx : Int) (ob : Ob) (m : Int) (sh : Bool) (w : World) (gl : Gl w) : Calls Tryd.prog 21 #[.pointer none, .int .i64 tx, .agg #[.int .i64 ob.s, .string ob.t, .string ob.l, .string ob.u, .bool ob.e], .int .i64 m, .bool sh] w fun e w' => e = .returned (.tuple #[.bool false, .int .i64 1]) ∧ St w w' := by
  have hs := (St.refl gl).alloc (.cells #[.int .i64 ob.s, .string ob.t, .string ob.l, .string ob.u, .bool ob.e] 30)
  go_enter Tryd.func21, Tryd.ntmps21
  go_wp2
  go_ret2
  exact ⟨rfl, hs⟩
set_option maxHeartbeats 2000000 in
set_option maxRecDepth 100000 in
theorem ask_form (F : Nat → Prop) (D : Nat) (T : List Rq) (most tx : Int) (ob : Ob) (m : Int) (sh : Bool) (w : World) (gl : Gl w) (ht : Tab F w D most T) (hT : T.length ≤ 2000) (hno : tx < 1 ∨ pl ob.s ob.t ob.l ob.u ob.e = false ∨ m = 0 ∨ rt m = false ∨ waitsB T tx = true) : Calls Tryd.prog 21 #[.pointer (some ⟨D, 0, none⟩), .int .i64 tx, .agg #[.int .i64 ob.s, .string ob.t, .string ob.l, .string ob.u, .bool ob.e], .int .i64 m, .bool sh] w fun e w' => e = .returned (.tuple #[.bool false, .int .i64 114]) ∧ St w w' := by
  obtain ⟨v, ps, ht, hF⟩ := ht
  obtain ⟨a, c, rfl⟩ := own_slice ht.row
  have hs0 : St w (w.alloc (.cells #[.int .i64 ob.s, .string ob.t, .string ob.l, .string ob.u, .bool ob.e] 30)) := (St.refl gl).alloc _
  have hbx := new_at w (.cells #[.int .i64 ob.s, .string ob.t, .string ob.l, .string ob.u, .bool ob.e] 30)
  have ht0 := ht.below hs0.b
  have HT := Lib.hid ht
  have HF := Lib.hid hF
  have HS0 := Lib.hid hs0
  have HT0 := Lib.hid ht0
  have HBX := Lib.hid hbx
  have b0 : (w.alloc (.cells #[.int .i64 ob.s, .string ob.t, .string ob.l, .string ob.u, .bool ob.e] 30)).cell? ⟨w.heap.size, 0, none⟩ = some (.int .i64 ob.s) := (Md.blk_cell hbx 0).trans rfl
  have b1 : (w.alloc (.cells #[.int .i64 ob.s, .string ob.t, .string ob.l, .string ob.u, .bool ob.e] 30)).cell? ⟨w.heap.size, 1, none⟩ = some (.string ob.t) := (Md.blk_cell hbx 1).trans rfl
  have b2 : (w.alloc (.cells #[.int .i64 ob.s, .string ob.t, .string ob.l, .string ob.u, .bool ob.e] 30)).cell? ⟨w.heap.size, 2, none⟩ = some (.string ob.l) := (Md.blk_cell hbx 2).trans rfl
  have b3 : (w.alloc (.cells #[.int .i64 ob.s, .string ob.t, .string ob.l, .string ob.u, .bool ob.e] 30)).cell? ⟨w.heap.size, 3, none⟩ = some (.string ob.u) := (Md.blk_cell hbx 3).trans rfl
  have b4 : (w.alloc (.cells #[.int .i64 ob.s, .string ob.t, .string ob.l, .string ob.u, .bool ob.e] 30)).cell? ⟨w.heap.size, 4, none⟩ = some (.bool ob.e) := (Md.blk_cell hbx 4).trans rfl
  clear ht hF hs0 ht0 hbx
  by_cases h1 : tx < 1
  · have t1 : decide (tx < 1) = true := decide_eq_true h1
    have hs := HS0.out
    go_enter Tryd.func21, Tryd.ntmps21
    go_wp2_with fail
    go_ret2
    exact ⟨rfl, hs⟩
  · have t1 : decide (tx < 1) = false := decide_eq_false h1
    cases h2 : pl ob.s ob.t ob.l ob.u ob.e
    · go_enter Tryd.func21, Tryd.ntmps21
      go_wp2_with fail
      refine (place_b ob _ h2 _ HS0.out.gl).mono ?_
      rintro e w1 ⟨rfl, hb1⟩
      have HB1 := Lib.hid (HS0.out.to hb1)
      clear hb1 b0 b1 b2 b3 b4
      go_wp2_with fail
      go_ret2
      exact ⟨rfl, HB1.out⟩
    · by_cases h3 : m = 0
      · have t3 : (m == 0) = true := by simpa using h3
        have t3' : decide (m = 0) = true := decide_eq_true h3
        go_enter Tryd.func21, Tryd.ntmps21
        go_wp2_with fail
        refine (place_b ob _ h2 _ HS0.out.gl).mono ?_
        rintro e w1 ⟨rfl, hb1⟩
        have HB1 := Lib.hid (HS0.out.to hb1)
        clear hb1 b0 b1 b2 b3 b4
        go_wp2_with fail
        go_ret2
        exact ⟨rfl, HB1.out⟩
      · have t3 : (m == 0) = false := by simpa using h3
        have t3' : decide (m = 0) = false := decide_eq_false h3
        cases h4 : rt m
        · go_enter Tryd.func21, Tryd.ntmps21
          go_wp2_with fail
          refine (place_b ob _ h2 _ HS0.out.gl).mono ?_
          rintro e w1 ⟨rfl, hb1⟩
          have HB1 := Lib.hid (HS0.out.to hb1)
          clear hb1 b0 b1 b2 b3 b4
          go_wp2_with fail
          refine (right_b m _ h4 _).mono ?_
          rintro e w2 ⟨rfl, rfl⟩
          go_wp2_with fail
          go_ret2
          exact ⟨rfl, HB1.out⟩
        · have h5 : waitsB T tx = true := by
            rcases hno with q | q | q | q | q
            · exact absurd q h1
            · rw [h2] at q; cases q
            · exact absurd q h3
            · rw [h4] at q; cases q
            · exact q
          go_enter Tryd.func21, Tryd.ntmps21
          go_wp2_with fail
          refine (place_b ob _ h2 _ HS0.out.gl).mono ?_
          rintro e w1 ⟨rfl, hb1⟩
          have HB1 := Lib.hid (HS0.out.to hb1)
          clear hb1 b0 b1 b2 b3 b4
          go_wp2_with fail
          refine (right_b m _ h4 _).mono ?_
          rintro e w2 ⟨rfl, rfl⟩
          go_wp2_with fail
          refine (waits_b _ D _ ps T most tx h5 _ HB1.out.gl (HT.out.below HB1.out.b)).mono ?_
          rintro e w2 ⟨rfl, hb2⟩
          have HB2 := Lib.hid (HB1.out.to hb2)
          clear hb2
          go_wp2_with fail
          go_ret2
          exact ⟨rfl, HB2.out⟩

set_option maxHeartbeats 2000000 in
set_option maxRecDepth 100000 in
theorem ask_full (F : Nat → Prop) (D : Nat) (T : List Rq) (most tx : Int) (ob : Ob) (m : Int) (sh : Bool) (w : World) (gl : Gl w) (ht : Tab F w D most T) (hT : T.length ≤ 2000) (hok : ¬ tx < 1 ∧ pl ob.s ob.t ob.l ob.u ob.e = true ∧ ¬ m = 0 ∧ rt m = true ∧ waitsB T tx = false) (h6 : hasB T tx ob m = false) (h7 : most ≤ T.length) : Calls Tryd.prog 21 #[.pointer (some ⟨D, 0, none⟩), .int .i64 tx, .agg #[.int .i64 ob.s, .string ob.t, .string ob.l, .string ob.u, .bool ob.e], .int .i64 m, .bool sh] w fun e w' => e = .returned (.tuple #[.bool false, .int .i64 112]) ∧ St w w' := by
  obtain ⟨v, ps, ht, hF⟩ := ht
  obtain ⟨a, c, rfl⟩ := own_slice ht.row
  have hs0 : St w (w.alloc (.cells #[.int .i64 ob.s, .string ob.t, .string ob.l, .string ob.u, .bool ob.e] 30)) := (St.refl gl).alloc _
  have hbx := new_at w (.cells #[.int .i64 ob.s, .string ob.t, .string ob.l, .string ob.u, .bool ob.e] 30)
  have ht0 := ht.below hs0.b
  have HT := Lib.hid ht
  have HF := Lib.hid hF
  have HS0 := Lib.hid hs0
  have HT0 := Lib.hid ht0
  have HBX := Lib.hid hbx
  have b0 : (w.alloc (.cells #[.int .i64 ob.s, .string ob.t, .string ob.l, .string ob.u, .bool ob.e] 30)).cell? ⟨w.heap.size, 0, none⟩ = some (.int .i64 ob.s) := (Md.blk_cell hbx 0).trans rfl
  have b1 : (w.alloc (.cells #[.int .i64 ob.s, .string ob.t, .string ob.l, .string ob.u, .bool ob.e] 30)).cell? ⟨w.heap.size, 1, none⟩ = some (.string ob.t) := (Md.blk_cell hbx 1).trans rfl
  have b2 : (w.alloc (.cells #[.int .i64 ob.s, .string ob.t, .string ob.l, .string ob.u, .bool ob.e] 30)).cell? ⟨w.heap.size, 2, none⟩ = some (.string ob.l) := (Md.blk_cell hbx 2).trans rfl
  have b3 : (w.alloc (.cells #[.int .i64 ob.s, .string ob.t, .string ob.l, .string ob.u, .bool ob.e] 30)).cell? ⟨w.heap.size, 3, none⟩ = some (.string ob.u) := (Md.blk_cell hbx 3).trans rfl
  have b4 : (w.alloc (.cells #[.int .i64 ob.s, .string ob.t, .string ob.l, .string ob.u, .bool ob.e] 30)).cell? ⟨w.heap.size, 4, none⟩ = some (.bool ob.e) := (Md.blk_cell hbx 4).trans rfl
  clear ht hF hs0 ht0 hbx
  obtain ⟨h1, h2, h3, h4, h5⟩ := hok
  have t1 : decide (tx < 1) = false := decide_eq_false h1
  have t3 : (m == 0) = false := by simpa using h3
  have t3' : decide (m = 0) = false := decide_eq_false h3
  go_enter Tryd.func21, Tryd.ntmps21
  go_wp2_with fail
  refine (place_b ob _ h2 _ HS0.out.gl).mono ?_
  rintro e w1 ⟨rfl, hb1⟩
  have HB1 := Lib.hid (HS0.out.to hb1)
  have HBX1 := Lib.hid ((hb1.b.block _ (Array.getElem?_eq_some_iff.1 HBX.out).1).trans HBX.out)
  clear hb1 b0 b1 b2 b3 b4
  go_wp2_with fail
  refine (right_b m _ h4 _).mono ?_
  rintro e w2 ⟨rfl, rfl⟩
  go_wp2_with fail
  refine (waits_b _ D _ ps T most tx h5 _ HB1.out.gl (HT.out.below HB1.out.b)).mono ?_
  rintro e w2 ⟨rfl, hb2⟩
  have HB2 := Lib.hid (HB1.out.to hb2)
  have HBX2 := Lib.hid ((hb2.b.block _ (Array.getElem?_eq_some_iff.1 HBX1.out).1).trans HBX1.out)
  clear hb2
  have b0 : w2.cell? ⟨w.heap.size, 0, none⟩ = some (.int .i64 ob.s) := (Md.blk_cell HBX2.out 0).trans rfl
  have b1 : w2.cell? ⟨w.heap.size, 1, none⟩ = some (.string ob.t) := (Md.blk_cell HBX2.out 1).trans rfl
  have b2 : w2.cell? ⟨w.heap.size, 2, none⟩ = some (.string ob.l) := (Md.blk_cell HBX2.out 2).trans rfl
  have b3 : w2.cell? ⟨w.heap.size, 3, none⟩ = some (.string ob.u) := (Md.blk_cell HBX2.out 3).trans rfl
  have b4 : w2.cell? ⟨w.heap.size, 4, none⟩ = some (.bool ob.e) := (Md.blk_cell HBX2.out 4).trans rfl
  go_wp2_with fail
  refine (has_b _ D _ ps T most tx ob m h6 _ HB2.out.gl (HT.out.below HB2.out.b)).mono ?_
  rintro e w3 ⟨rfl, hb3⟩
  have HB3 := Lib.hid (HB2.out.to hb3)
  have HBX3 := Lib.hid ((hb3.b.block _ (Array.getElem?_eq_some_iff.1 HBX2.out).1).trans HBX2.out)
  clear hb3 b0 b1 b2 b3 b4
  have HT3 := Lib.hid (HT.out.below HB3.out.b)
  have x1 : w3.cell? ⟨D, 1, none⟩ = some (.slice a T.length c) := (Md.blk_cell HT3.out.d 1).trans rfl
  have x0 : w3.cell? ⟨D, 0, none⟩ = some (.int .i64 most) := (Md.blk_cell HT3.out.d 0).trans rfl
  have t7 : decide (most ≤ (T.length : Int)) = true := decide_eq_true h7
  go_wp2_with fail
  go_quiet (fail)
  go_wp2_with fail
  go_ret2
  exact ⟨rfl, HB3.out.drewN _⟩
end Lk
end Go.Proofs.YtogcjflneedcfaaDoor

namespace Go.Proofs.YtogcjflneedcfaaDoor
open Go.RowKit Md Go.Shelf Go.Proofs.YtogcjflneedcfaaDoorW.PrintWords
set_option linter.unusedVariables false
set_option linter.unusedSimpArgs false
namespace Lk

def LS (F : Nat → Prop) (D : Nat) (v : Value) (ps : List Nat) (T : List Rq) (most tx : Int) (ob : Ob) (m : Int) (sh : Bool) (w : World) (i : Value) (wr : World) : Prop := ∃ k : Nat, i = .int .i64 k ∧ k ≤ T.length ∧ TabAt wr D v ps ((T.take k).map (shortF tx ob m sh) ++ T.drop k) most ∧ Fr F w wr ∧ wr.heap[w.heap.size]? = some (.cells #[.int .i64 ob.s, .string ob.t, .string ob.l, .string ob.u, .bool ob.e] 30 (0, 0)) ∧ Gl wr
theorem mapTo_at {α : Type} (f : α → α) (T : List α) (k j : Nat) : ((T.take k).map f ++ T.drop k)[j]? = if j < k then (T[j]?).map f else T[j]? := by
  by_cases hk : k ≤ T.length
  · have hl : ((T.take k).map f).length = k := by simp; omega
    by_cases hj : j < k
    · rw [List.getElem?_append_left (by omega), if_pos hj, List.getElem?_map, List.getElem?_take_of_lt hj]
    · rw [List.getElem?_append_right (by omega), if_neg hj, hl, List.getElem?_drop]
      congr 1
      omega
  · rw [List.take_of_length_le (by omega), List.drop_of_length_le (by omega), List.append_nil, List.getElem?_map]
    by_cases hj : j < k
    · rw [if_pos hj]
    · rw [if_neg hj, List.getElem?_eq_none (by omega)]
      rfl
theorem shortK {T : List Rq} {k : Nat} {r r' : Rq} {tx : Int} {ob : Ob} {m : Int} {sh : Bool} (hr : T[k]? = some r) (h : shortF tx ob m sh r = r') : (T.take (k + 1)).map (shortF tx ob m sh) ++ T.drop (k + 1) = (((T.take k).map (shortF tx ob m sh) ++ T.drop k).modify k fun _ => r') := by
  apply List.ext_getElem?
  intro j
  rw [mapTo_at, List.getElem?_modify, mapTo_at]
  by_cases hj : k = j
  · subst hj
    simp [hr, h]
  · by_cases hjk : j < k
    · simp [hj, hjk, show j < k + 1 by omega]
    · simp [hj, hjk, show ¬ j < k + 1 by omega]
theorem modify_self {T : List Rq} {k : Nat} {r : Rq} (hr : T[k]? = some r) : (T.modify k fun _ => r) = T := by
  apply List.ext_getElem?
  intro j
  rw [List.getElem?_modify]
  by_cases hj : k = j
  · subst hj
    simp [hr]
  · simp [hj]
set_option maxHeartbeats 2000000 in
set_option maxRecDepth 100000 in
theorem ask_has (F : Nat → Prop) (D : Nat) (T : List Rq) (most tx : Int) (ob : Ob) (m : Int) (sh : Bool) (w : World) (gl : Gl w) (ht : Tab F w D most T) (hT : T.length ≤ 2000) (hok : ¬ tx < 1 ∧ pl ob.s ob.t ob.l ob.u ob.e = true ∧ ¬ m = 0 ∧ rt m = true ∧ waitsB T tx = false) (h6 : hasB T tx ob m = true) : Calls Tryd.prog 21 #[.pointer (some ⟨D, 0, none⟩), .int .i64 tx, .agg #[.int .i64 ob.s, .string ob.t, .string ob.l, .string ob.u, .bool ob.e], .int .i64 m, .bool sh] w fun e w' => e = .returned (.tuple #[.bool true, .int .i64 0]) ∧ Tab F w' D most (T.map (shortF tx ob m sh)) ∧ Fr F w w' ∧ Gl w' := by
  obtain ⟨v, ps, ht, hF⟩ := ht
  obtain ⟨a, c, rfl⟩ := own_slice ht.row
  have hs0 : St w (w.alloc (.cells #[.int .i64 ob.s, .string ob.t, .string ob.l, .string ob.u, .bool ob.e] 30)) := (St.refl gl).alloc _
  have hbx := new_at w (.cells #[.int .i64 ob.s, .string ob.t, .string ob.l, .string ob.u, .bool ob.e] 30)
  have ht0 := ht.below hs0.b
  have HT := Lib.hid ht
  have HF := Lib.hid hF
  have HS0 := Lib.hid hs0
  have HT0 := Lib.hid ht0
  have HBX := Lib.hid hbx
  have b0 : (w.alloc (.cells #[.int .i64 ob.s, .string ob.t, .string ob.l, .string ob.u, .bool ob.e] 30)).cell? ⟨w.heap.size, 0, none⟩ = some (.int .i64 ob.s) := (Md.blk_cell hbx 0).trans rfl
  have b1 : (w.alloc (.cells #[.int .i64 ob.s, .string ob.t, .string ob.l, .string ob.u, .bool ob.e] 30)).cell? ⟨w.heap.size, 1, none⟩ = some (.string ob.t) := (Md.blk_cell hbx 1).trans rfl
  have b2 : (w.alloc (.cells #[.int .i64 ob.s, .string ob.t, .string ob.l, .string ob.u, .bool ob.e] 30)).cell? ⟨w.heap.size, 2, none⟩ = some (.string ob.l) := (Md.blk_cell hbx 2).trans rfl
  have b3 : (w.alloc (.cells #[.int .i64 ob.s, .string ob.t, .string ob.l, .string ob.u, .bool ob.e] 30)).cell? ⟨w.heap.size, 3, none⟩ = some (.string ob.u) := (Md.blk_cell hbx 3).trans rfl
  have b4 : (w.alloc (.cells #[.int .i64 ob.s, .string ob.t, .string ob.l, .string ob.u, .bool ob.e] 30)).cell? ⟨w.heap.size, 4, none⟩ = some (.bool ob.e) := (Md.blk_cell hbx 4).trans rfl
  clear ht hF hs0 ht0 hbx
  obtain ⟨h1, h2, h3, h4, h5⟩ := hok
  have t1 : decide (tx < 1) = false := decide_eq_false h1
  have t3 : (m == 0) = false := by simpa using h3
  have t3' : decide (m = 0) = false := decide_eq_false h3
  go_enter Tryd.func21, Tryd.ntmps21
  go_wp2_with fail
  refine (place_b ob _ h2 _ HS0.out.gl).mono ?_
  rintro e w1 ⟨rfl, hb1⟩
  have HB1 := Lib.hid (HS0.out.to hb1)
  have HBX1 := Lib.hid ((hb1.b.block _ (Array.getElem?_eq_some_iff.1 HBX.out).1).trans HBX.out)
  clear hb1 b0 b1 b2 b3 b4
  go_wp2_with fail
  refine (right_b m _ h4 _).mono ?_
  rintro e w2 ⟨rfl, rfl⟩
  go_wp2_with fail
  refine (waits_b _ D _ ps T most tx h5 _ HB1.out.gl (HT.out.below HB1.out.b)).mono ?_
  rintro e w2 ⟨rfl, hb2⟩
  have HB2 := Lib.hid (HB1.out.to hb2)
  have HBX2 := Lib.hid ((hb2.b.block _ (Array.getElem?_eq_some_iff.1 HBX1.out).1).trans HBX1.out)
  clear hb2
  have b0 : w2.cell? ⟨w.heap.size, 0, none⟩ = some (.int .i64 ob.s) := (Md.blk_cell HBX2.out 0).trans rfl
  have b1 : w2.cell? ⟨w.heap.size, 1, none⟩ = some (.string ob.t) := (Md.blk_cell HBX2.out 1).trans rfl
  have b2 : w2.cell? ⟨w.heap.size, 2, none⟩ = some (.string ob.l) := (Md.blk_cell HBX2.out 2).trans rfl
  have b3 : w2.cell? ⟨w.heap.size, 3, none⟩ = some (.string ob.u) := (Md.blk_cell HBX2.out 3).trans rfl
  have b4 : w2.cell? ⟨w.heap.size, 4, none⟩ = some (.bool ob.e) := (Md.blk_cell HBX2.out 4).trans rfl
  go_wp2_with fail
  refine (has_b _ D _ ps T most tx ob m h6 _ HB2.out.gl (HT.out.below HB2.out.b)).mono ?_
  rintro e w3 ⟨rfl, hb3⟩
  have HB3 := Lib.hid (HB2.out.to hb3)
  have HBX3 := Lib.hid ((hb3.b.block _ (Array.getElem?_eq_some_iff.1 HBX2.out).1).trans HBX2.out)
  clear hb3 b0 b1 b2 b3 b4
  have HT3 := Lib.hid (HT.out.below HB3.out.b)
  have x1 : w3.cell? ⟨D, 1, none⟩ = some (.slice a T.length c) := (Md.blk_cell HT3.out.d 1).trans rfl
  have x0 : w3.cell? ⟨D, 0, none⟩ = some (.int .i64 most) := (Md.blk_cell HT3.out.d 0).trans rfl
  have HG3 := Lib.hid HB3.out.gl
  have HFW3 := Lib.hid (Fr.of_below (F := F) HB3.out.b)
  clear HB1 HB2 HB3 HBX1 HBX2 HS0 HT0 HBX h1 h2 h3 h4 h5 h6 t1 t3 t3'
  go_wp2_with fail
  clear x0 x1
  go_loopw [51] (fun i wr => LS F D (.slice a T.length c) ps T most tx ob m sh w i wr) (fun i _ => T.length - (intOf i).toNat)
  case atStart => exact ⟨0, rfl, Nat.zero_le _, by simpa using HT3.out, HFW3.out, HBX3.out, HG3.out⟩
  case round =>
    clear HT3 HFW3 HBX3 HG3
    obtain ⟨k, rfl, hk, htl, hfl, hbl, hgl⟩ := hrel
    have HTL := Lib.hid htl
    have HFL := Lib.hid hfl
    have HBL := Lib.hid hbl
    have HGR := Lib.hid hgl
    clear htl hfl hbl hgl
    by_cases hlt : k < T.length
    · have t4 : decide (k < T.length) = true := decide_eq_true hlt
      have t6 : (k : Int) < T.length := by omega
      obtain ⟨p, hp⟩ : ∃ p, ps[k]? = some p := ⟨ps[k]'(by have := HT.out.len; omega), List.getElem?_eq_getElem (by have := HT.out.len; omega)⟩
      have hrow := HTL.out.row
      rw [show ((T.take k).map (shortF tx ob m sh) ++ T.drop k).length = T.length by simp; omega] at hrow
      obtain ⟨g, rfl, hpc⟩ := row_ptr hrow hp
      unfold ptr at hpc
      obtain ⟨rg, hrk, hir⟩ := HTL.out.at hp
      have hr : T[k]? = some rg := by rw [mapTo_at, if_neg (by omega)] at hrk; exact hrk
      obtain ⟨c0, c1, c2, c3, c4, c5, c6, c7, c8⟩ := hir.cells
      have HR := Lib.hid hr
      have HRK := Lib.hid hrk
      have HIR := Lib.hid hir
      have HP := Lib.hid hp
      clear hrow hr hrk hir hp c0 c7 c8
      have b0 : wr.cell? ⟨w.heap.size, 0, none⟩ = some (.int .i64 ob.s) := (Md.blk_cell HBL.out 0).trans rfl
      have b1 : wr.cell? ⟨w.heap.size, 1, none⟩ = some (.string ob.t) := (Md.blk_cell HBL.out 1).trans rfl
      have b2 : wr.cell? ⟨w.heap.size, 2, none⟩ = some (.string ob.l) := (Md.blk_cell HBL.out 2).trans rfl
      have b3 : wr.cell? ⟨w.heap.size, 3, none⟩ = some (.string ob.u) := (Md.blk_cell HBL.out 3).trans rfl
      have b4 : wr.cell? ⟨w.heap.size, 4, none⟩ = some (.bool ob.e) := (Md.blk_cell HBL.out 4).trans rfl
      go_wp2_with fail
      clear hpc
      cases hsh : sh
      rotate_left
      · have hsame : shortF tx ob m sh rg = rg := by simp [shortF, hsh]
        have HTN := Lib.hid (show TabAt wr D (.slice (some ⟨g, 0, none⟩) T.length c) ps ((T.take (k + 1)).map (shortF tx ob m sh) ++ T.drop (k + 1)) most by rw [shortK HR.out hsame, modify_self HRK.out]; exact HTL.out)
        subst hsh
        refine Go.Proofs.YtogcjflneedcfaaDoorW.PrintLast.start_ (n := 25) (S := fun v => St wr v ∧ v.cell? ⟨p, 1, none⟩ = some (.int .i64 rg.o.s) ∧ v.cell? ⟨p, 2, none⟩ = some (.string rg.o.t) ∧ v.cell? ⟨p, 3, none⟩ = some (.string rg.o.l) ∧ v.cell? ⟨p, 4, none⟩ = some (.string rg.o.u) ∧ v.cell? ⟨p, 5, none⟩ = some (.bool rg.o.e) ∧ v.cell? ⟨p, 6, none⟩ = some (.int .i64 rg.m) ∧ v.cell? ⟨w.heap.size, 0, none⟩ = some (.int .i64 ob.s) ∧ v.cell? ⟨w.heap.size, 1, none⟩ = some (.string ob.t) ∧ v.cell? ⟨w.heap.size, 2, none⟩ = some (.string ob.l) ∧ v.cell? ⟨w.heap.size, 3, none⟩ = some (.string ob.u) ∧ v.cell? ⟨w.heap.size, 4, none⟩ = some (.bool ob.e)) (ds := [24]) #[false, false, false, false, false, false, false, false, false, false, false, false, false, false, false, false, false, false, false, false, false, false, false, false, false] (by kernel_rfl) rfl rfl ⟨(St.refl HGR.out).drew, c1, c2, c3, c4, c5, c6, b0, b1, b2, b3, b4⟩ (fun hHeld => ?_)
        refine Go.Proofs.YtogcjflneedcfaaDoorW.PrintLast.pure_ (i := 0) (N := some 55) (v := ?_) (a' := ?_) #[true, false, false, false, false, false, false, false, false, false, false, false, false, false, false, false, false, false, false, false, false, false, false, false, false] rfl rfl (by kernel_rfl) (fun _ _ _ h => h) (Or.inl ⟨by rfl, ?_⟩) ?_ ?_
        rotate_left
        · intro w'
          go_simp
          with_reducible rfl
        rotate_left
        · simp only [Act.put, List.setIfInBounds_toArray, List.set_cons_zero, List.set_cons_succ, Go.Proofs.YtogcjflneedcfaaDoorW.PrintLast.i64_w, Go.Proofs.YtogcjflneedcfaaDoorW.PrintLast.i32_w]
          rfl
        refine Go.Proofs.YtogcjflneedcfaaDoorW.PrintLast.pure_ (i := 1) (N := some 56) (v := ?_) (a' := ?_) #[true, true, false, false, false, false, false, false, false, false, false, false, false, false, false, false, false, false, false, false, false, false, false, false, false] rfl rfl (by kernel_rfl) (fun _ _ _ h => h) (Or.inl ⟨by rfl, ?_⟩) ?_ ?_
        rotate_left
        · intro w'
          go_simp
          with_reducible rfl
        rotate_left
        · simp only [Act.put, List.setIfInBounds_toArray, List.set_cons_zero, List.set_cons_succ, Go.Proofs.YtogcjflneedcfaaDoorW.PrintLast.i64_w, Go.Proofs.YtogcjflneedcfaaDoorW.PrintLast.i32_w]
          rfl
        refine Go.Proofs.YtogcjflneedcfaaDoorW.PrintLast.pure_ (i := 2) (N := some 57) (v := ?_) (a' := ?_) #[true, true, true, false, false, false, false, false, false, false, false, false, false, false, false, false, false, false, false, false, false, false, false, false, false] rfl rfl (by kernel_rfl) (fun _ _ _ h => h) (Or.inl ⟨by rfl, ?_⟩) ?_ ?_
        rotate_left
        · intro w'
          go_simp
          with_reducible rfl
        rotate_left
        · simp only [Act.put, List.setIfInBounds_toArray, List.set_cons_zero, List.set_cons_succ, Go.Proofs.YtogcjflneedcfaaDoorW.PrintLast.i64_w, Go.Proofs.YtogcjflneedcfaaDoorW.PrintLast.i32_w]
          rfl
        refine Go.Proofs.YtogcjflneedcfaaDoorW.PrintLast.pure_ (i := 3) (N := some 58) (v := _) (a' := ?_) #[true, true, true, true, false, false, false, false, false, false, false, false, false, false, false, false, false, false, false, false, false, false, false, false, false] rfl rfl (by kernel_rfl) (fun _ _ _ h => h) (Or.inr ⟨by rfl, rfl⟩) ?_ ?_
        rotate_left
        · simp only [Act.put, List.setIfInBounds_toArray, List.set_cons_zero, List.set_cons_succ, Go.Proofs.YtogcjflneedcfaaDoorW.PrintLast.i64_w, Go.Proofs.YtogcjflneedcfaaDoorW.PrintLast.i32_w]
          rfl
        refine Go.Proofs.YtogcjflneedcfaaDoorW.PrintLast.pure_ (i := 4) (N := some 59) (v := _) (a' := ?_) #[true, true, true, true, true, false, false, false, false, false, false, false, false, false, false, false, false, false, false, false, false, false, false, false, false] rfl rfl (by kernel_rfl) (fun _ _ _ h => h) (Or.inr ⟨by rfl, rfl⟩) ?_ ?_
        rotate_left
        · simp only [Act.put, List.setIfInBounds_toArray, List.set_cons_zero, List.set_cons_succ, Go.Proofs.YtogcjflneedcfaaDoorW.PrintLast.i64_w, Go.Proofs.YtogcjflneedcfaaDoorW.PrintLast.i32_w]
          rfl
        refine Go.Proofs.YtogcjflneedcfaaDoorW.PrintLast.pure_ (i := 5) (N := some 60) (v := _) (a' := ?_) #[true, true, true, true, true, true, false, false, false, false, false, false, false, false, false, false, false, false, false, false, false, false, false, false, false] rfl rfl (by kernel_rfl) (fun _ _ _ h => h) (Or.inr ⟨by rfl, rfl⟩) ?_ ?_
        rotate_left
        · simp only [Act.put, List.setIfInBounds_toArray, List.set_cons_zero, List.set_cons_succ, Go.Proofs.YtogcjflneedcfaaDoorW.PrintLast.i64_w, Go.Proofs.YtogcjflneedcfaaDoorW.PrintLast.i32_w]
          rfl
        refine Go.Proofs.YtogcjflneedcfaaDoorW.PrintLast.pure_ (i := 6) (N := some 61) (v := _) (a' := ?_) #[true, true, true, true, true, true, true, false, false, false, false, false, false, false, false, false, false, false, false, false, false, false, false, false, false] rfl rfl (by kernel_rfl) (fun _ _ _ h => h) (Or.inr ⟨by rfl, rfl⟩) ?_ ?_
        rotate_left
        · simp only [Act.put, List.setIfInBounds_toArray, List.set_cons_zero, List.set_cons_succ, Go.Proofs.YtogcjflneedcfaaDoorW.PrintLast.i64_w, Go.Proofs.YtogcjflneedcfaaDoorW.PrintLast.i32_w]
          rfl
        refine Go.Proofs.YtogcjflneedcfaaDoorW.PrintLast.pure_ (i := 7) (N := some 62) (v := _) (a' := ?_) #[true, true, true, true, true, true, true, true, false, false, false, false, false, false, false, false, false, false, false, false, false, false, false, false, false] rfl rfl (by kernel_rfl) (fun _ _ _ h => h) (Or.inr ⟨by rfl, rfl⟩) ?_ ?_
        rotate_left
        · simp only [Act.put, List.setIfInBounds_toArray, List.set_cons_zero, List.set_cons_succ, Go.Proofs.YtogcjflneedcfaaDoorW.PrintLast.i64_w, Go.Proofs.YtogcjflneedcfaaDoorW.PrintLast.i32_w]
          rfl
        refine Go.Proofs.YtogcjflneedcfaaDoorW.PrintLast.pure_ (i := 8) (N := some 63) (v := ?_) (a' := ?_) #[true, true, true, true, true, true, true, true, true, false, false, false, false, false, false, false, false, false, false, false, false, false, false, false, false] rfl rfl (by kernel_rfl) (fun _ _ _ h => h) (Or.inl ⟨by rfl, ?_⟩) ?_ ?_
        rotate_left
        · intro w'
          go_simp
          with_reducible rfl
        rotate_left
        · simp only [Act.put, List.setIfInBounds_toArray, List.set_cons_zero, List.set_cons_succ, Go.Proofs.YtogcjflneedcfaaDoorW.PrintLast.i64_w, Go.Proofs.YtogcjflneedcfaaDoorW.PrintLast.i32_w]
          rfl
        refine Go.Proofs.YtogcjflneedcfaaDoorW.PrintLast.pure_ (i := 9) (N := some 64) (v := ?_) (a' := ?_) #[true, true, true, true, true, true, true, true, true, true, false, false, false, false, false, false, false, false, false, false, false, false, false, false, false] rfl rfl (by kernel_rfl) (fun _ _ _ h => h) (Or.inl ⟨by rfl, ?_⟩) ?_ ?_
        rotate_left
        · intro w'
          go_simp
          with_reducible rfl
        rotate_left
        · simp only [Act.put, List.setIfInBounds_toArray, List.set_cons_zero, List.set_cons_succ, Go.Proofs.YtogcjflneedcfaaDoorW.PrintLast.i64_w, Go.Proofs.YtogcjflneedcfaaDoorW.PrintLast.i32_w]
          rfl
        refine Go.Proofs.YtogcjflneedcfaaDoorW.PrintLast.pure_ (i := 10) (N := some 65) (v := _) (a' := ?_) #[true, true, true, true, true, true, true, true, true, true, true, false, false, false, false, false, false, false, false, false, false, false, false, false, false] rfl rfl (by kernel_rfl) (fun _ _ _ h => h) (Or.inr ⟨by rfl, rfl⟩) ?_ ?_
        rotate_left
        · simp only [Act.put, List.setIfInBounds_toArray, List.set_cons_zero, List.set_cons_succ, Go.Proofs.YtogcjflneedcfaaDoorW.PrintLast.i64_w, Go.Proofs.YtogcjflneedcfaaDoorW.PrintLast.i32_w]
          rfl
        refine Go.Proofs.YtogcjflneedcfaaDoorW.PrintLast.pure_ (i := 11) (N := some 66) (v := _) (a' := ?_) #[true, true, true, true, true, true, true, true, true, true, true, true, false, false, false, false, false, false, false, false, false, false, false, false, false] rfl rfl (by kernel_rfl) (fun _ _ _ h => h) (Or.inr ⟨by rfl, rfl⟩) ?_ ?_
        rotate_left
        · simp only [Act.put, List.setIfInBounds_toArray, List.set_cons_zero, List.set_cons_succ, Go.Proofs.YtogcjflneedcfaaDoorW.PrintLast.i64_w, Go.Proofs.YtogcjflneedcfaaDoorW.PrintLast.i32_w]
          rfl
        refine Go.Proofs.YtogcjflneedcfaaDoorW.PrintLast.pure_ (i := 12) (N := some 67) (v := _) (a' := ?_) #[true, true, true, true, true, true, true, true, true, true, true, true, true, false, false, false, false, false, false, false, false, false, false, false, false] rfl rfl (by kernel_rfl) (fun _ _ _ h => h) (Or.inr ⟨by rfl, rfl⟩) ?_ ?_
        rotate_left
        · simp only [Act.put, List.setIfInBounds_toArray, List.set_cons_zero, List.set_cons_succ, Go.Proofs.YtogcjflneedcfaaDoorW.PrintLast.i64_w, Go.Proofs.YtogcjflneedcfaaDoorW.PrintLast.i32_w]
          rfl
        refine Go.Proofs.YtogcjflneedcfaaDoorW.PrintLast.pure_ (i := 13) (N := some 68) (v := _) (a' := ?_) #[true, true, true, true, true, true, true, true, true, true, true, true, true, true, false, false, false, false, false, false, false, false, false, false, false] rfl rfl (by kernel_rfl) (fun _ _ _ h => h) (Or.inr ⟨by rfl, rfl⟩) ?_ ?_
        rotate_left
        · simp only [Act.put, List.setIfInBounds_toArray, List.set_cons_zero, List.set_cons_succ, Go.Proofs.YtogcjflneedcfaaDoorW.PrintLast.i64_w, Go.Proofs.YtogcjflneedcfaaDoorW.PrintLast.i32_w]
          rfl
        refine Go.Proofs.YtogcjflneedcfaaDoorW.PrintLast.pure_ (i := 14) (N := some 69) (v := _) (a' := ?_) #[true, true, true, true, true, true, true, true, true, true, true, true, true, true, true, false, false, false, false, false, false, false, false, false, false] rfl rfl (by kernel_rfl) (fun _ _ _ h => h) (Or.inr ⟨by rfl, rfl⟩) ?_ ?_
        rotate_left
        · simp only [Act.put, List.setIfInBounds_toArray, List.set_cons_zero, List.set_cons_succ, Go.Proofs.YtogcjflneedcfaaDoorW.PrintLast.i64_w, Go.Proofs.YtogcjflneedcfaaDoorW.PrintLast.i32_w]
          rfl
        refine Go.Proofs.YtogcjflneedcfaaDoorW.PrintLast.pure_ (i := 15) (N := some 70) (v := _) (a' := ?_) #[true, true, true, true, true, true, true, true, true, true, true, true, true, true, true, true, false, false, false, false, false, false, false, false, false] rfl rfl (by kernel_rfl) (fun _ _ _ h => h) (Or.inr ⟨by rfl, rfl⟩) ?_ ?_
        rotate_left
        · simp only [Act.put, List.setIfInBounds_toArray, List.set_cons_zero, List.set_cons_succ, Go.Proofs.YtogcjflneedcfaaDoorW.PrintLast.i64_w, Go.Proofs.YtogcjflneedcfaaDoorW.PrintLast.i32_w]
          rfl
        refine Go.Proofs.YtogcjflneedcfaaDoorW.PrintLast.pure_ (i := 16) (N := some 71) (v := ?_) (a' := ?_) #[true, true, true, true, true, true, true, true, true, true, true, true, true, true, true, true, true, false, false, false, false, false, false, false, false] rfl rfl (by kernel_rfl) (fun _ _ _ h => h) (Or.inl ⟨by rfl, ?_⟩) ?_ ?_
        rotate_left
        · intro w'
          go_simp
          with_reducible rfl
        rotate_left
        · simp only [Act.put, List.setIfInBounds_toArray, List.set_cons_zero, List.set_cons_succ, Go.Proofs.YtogcjflneedcfaaDoorW.PrintLast.i64_w, Go.Proofs.YtogcjflneedcfaaDoorW.PrintLast.i32_w]
          rfl
        refine Go.Proofs.YtogcjflneedcfaaDoorW.PrintLast.pure_ (i := 17) (N := some 72) (v := ?_) (a' := ?_) #[true, true, true, true, true, true, true, true, true, true, true, true, true, true, true, true, true, true, false, false, false, false, false, false, false] rfl rfl (by kernel_rfl) (fun _ _ _ h => h) (Or.inl ⟨by rfl, ?_⟩) ?_ ?_
        rotate_left
        · intro w'
          go_simp
          with_reducible rfl
        rotate_left
        · simp only [Act.put, List.setIfInBounds_toArray, List.set_cons_zero, List.set_cons_succ, Go.Proofs.YtogcjflneedcfaaDoorW.PrintLast.i64_w, Go.Proofs.YtogcjflneedcfaaDoorW.PrintLast.i32_w]
          rfl
        refine Go.Proofs.YtogcjflneedcfaaDoorW.PrintLast.pure_ (i := 18) (N := some 73) (v := _) (a' := ?_) #[true, true, true, true, true, true, true, true, true, true, true, true, true, true, true, true, true, true, true, false, false, false, false, false, false] rfl rfl (by kernel_rfl) (fun _ _ _ h => h) (Or.inr ⟨by rfl, rfl⟩) ?_ ?_
        rotate_left
        · simp only [Act.put, List.setIfInBounds_toArray, List.set_cons_zero, List.set_cons_succ, Go.Proofs.YtogcjflneedcfaaDoorW.PrintLast.i64_w, Go.Proofs.YtogcjflneedcfaaDoorW.PrintLast.i32_w]
          rfl
        refine Go.Proofs.YtogcjflneedcfaaDoorW.PrintLast.pure_ (i := 19) (N := some 74) (v := _) (a' := ?_) #[true, true, true, true, true, true, true, true, true, true, true, true, true, true, true, true, true, true, true, true, false, false, false, false, false] rfl rfl (by kernel_rfl) (fun _ _ _ h => h) (Or.inr ⟨by rfl, rfl⟩) ?_ ?_
        rotate_left
        · simp only [Act.put, List.setIfInBounds_toArray, List.set_cons_zero, List.set_cons_succ, Go.Proofs.YtogcjflneedcfaaDoorW.PrintLast.i64_w, Go.Proofs.YtogcjflneedcfaaDoorW.PrintLast.i32_w]
          rfl
        refine Go.Proofs.YtogcjflneedcfaaDoorW.PrintLast.pure_ (i := 20) (N := some 75) (v := _) (a' := ?_) #[true, true, true, true, true, true, true, true, true, true, true, true, true, true, true, true, true, true, true, true, true, false, false, false, false] rfl rfl (by kernel_rfl) (fun _ _ _ h => h) (Or.inr ⟨by rfl, rfl⟩) ?_ ?_
        rotate_left
        · simp only [Act.put, List.setIfInBounds_toArray, List.set_cons_zero, List.set_cons_succ, Go.Proofs.YtogcjflneedcfaaDoorW.PrintLast.i64_w, Go.Proofs.YtogcjflneedcfaaDoorW.PrintLast.i32_w]
          rfl
        refine Go.Proofs.YtogcjflneedcfaaDoorW.PrintLast.pure_ (i := 21) (N := some 76) (v := _) (a' := ?_) #[true, true, true, true, true, true, true, true, true, true, true, true, true, true, true, true, true, true, true, true, true, true, false, false, false] rfl rfl (by kernel_rfl) (fun _ _ _ h => h) (Or.inr ⟨by rfl, rfl⟩) ?_ ?_
        rotate_left
        · simp only [Act.put, List.setIfInBounds_toArray, List.set_cons_zero, List.set_cons_succ, Go.Proofs.YtogcjflneedcfaaDoorW.PrintLast.i64_w, Go.Proofs.YtogcjflneedcfaaDoorW.PrintLast.i32_w]
          rfl
        refine Go.Proofs.YtogcjflneedcfaaDoorW.PrintLast.pure_ (i := 22) (N := some 77) (v := _) (a' := ?_) #[true, true, true, true, true, true, true, true, true, true, true, true, true, true, true, true, true, true, true, true, true, true, true, false, false] rfl rfl (by kernel_rfl) (fun _ _ _ h => h) (Or.inr ⟨by rfl, rfl⟩) ?_ ?_
        rotate_left
        · simp only [Act.put, List.setIfInBounds_toArray, List.set_cons_zero, List.set_cons_succ, Go.Proofs.YtogcjflneedcfaaDoorW.PrintLast.i64_w, Go.Proofs.YtogcjflneedcfaaDoorW.PrintLast.i32_w]
          rfl
        refine Go.Proofs.YtogcjflneedcfaaDoorW.PrintLast.pure_ (i := 23) (N := some 78) (v := _) (a' := ?_) #[true, true, true, true, true, true, true, true, true, true, true, true, true, true, true, true, true, true, true, true, true, true, true, true, false] rfl rfl (by kernel_rfl) (fun _ _ _ h => h) (Or.inr ⟨by rfl, rfl⟩) ?_ ?_
        rotate_left
        · simp only [Act.put, List.setIfInBounds_toArray, List.set_cons_zero, List.set_cons_succ, Go.Proofs.YtogcjflneedcfaaDoorW.PrintLast.i64_w, Go.Proofs.YtogcjflneedcfaaDoorW.PrintLast.i32_w]
          rfl
        refine Go.Proofs.YtogcjflneedcfaaDoorW.PrintLast.pure_ (i := 24) (N := some 79) (v := ?_) (a' := ?_) #[true, true, true, true, true, true, true, true, true, true, true, true, true, true, true, true, true, true, true, true, true, true, true, true, true] rfl rfl (by kernel_rfl) (fun _ _ _ h => h) (Or.inl ⟨by rfl, ?_⟩) ?_ ?_
        rotate_left
        · intro w'
          go_simp
          with_reducible rfl
        rotate_left
        · simp only [Act.put, List.setIfInBounds_toArray, List.set_cons_zero, List.set_cons_succ, Go.Proofs.YtogcjflneedcfaaDoorW.PrintLast.i64_w, Go.Proofs.YtogcjflneedcfaaDoorW.PrintLast.i32_w]
          rfl
        refine Go.Proofs.YtogcjflneedcfaaDoorW.PrintLast.done_ (by kernel_rfl) ?_
        have HGO := Lib.hid hHeld.1
        clear hHeld c1 c2 c3 c4 c5 c6 b0 b1 b2 b3 b4
        go_wp2_with fail
        go_roundw
        case rel => exact ⟨k + 1, by go_num, by omega, HTN.out.below HGO.out.b, HFL.out.trans (Fr.of_below HGO.out.b), (HGO.out.b.block _ (Array.getElem?_eq_some_iff.1 HBL.out).1).trans HBL.out, HGO.out.gl⟩
        case measure => simp [intOf]; omega
      · cases hhd : holds rg tx ob m
        · have hsame : shortF tx ob m sh rg = rg := by simp [shortF, hhd]
          have HTN := Lib.hid (show TabAt wr D (.slice (some ⟨g, 0, none⟩) T.length c) ps ((T.take (k + 1)).map (shortF tx ob m sh) ++ T.drop (k + 1)) most by rw [shortK HR.out hsame, modify_self HRK.out]; exact HTL.out)
          subst hsh
          refine Go.Proofs.YtogcjflneedcfaaDoorW.PrintLast.start_ (n := 25) (S := fun v => St wr v ∧ v.cell? ⟨p, 1, none⟩ = some (.int .i64 rg.o.s) ∧ v.cell? ⟨p, 2, none⟩ = some (.string rg.o.t) ∧ v.cell? ⟨p, 3, none⟩ = some (.string rg.o.l) ∧ v.cell? ⟨p, 4, none⟩ = some (.string rg.o.u) ∧ v.cell? ⟨p, 5, none⟩ = some (.bool rg.o.e) ∧ v.cell? ⟨p, 6, none⟩ = some (.int .i64 rg.m) ∧ v.cell? ⟨w.heap.size, 0, none⟩ = some (.int .i64 ob.s) ∧ v.cell? ⟨w.heap.size, 1, none⟩ = some (.string ob.t) ∧ v.cell? ⟨w.heap.size, 2, none⟩ = some (.string ob.l) ∧ v.cell? ⟨w.heap.size, 3, none⟩ = some (.string ob.u) ∧ v.cell? ⟨w.heap.size, 4, none⟩ = some (.bool ob.e)) (ds := [24]) #[false, false, false, false, false, false, false, false, false, false, false, false, false, false, false, false, false, false, false, false, false, false, false, false, false] (by kernel_rfl) rfl rfl ⟨(St.refl HGR.out).drew, c1, c2, c3, c4, c5, c6, b0, b1, b2, b3, b4⟩ (fun hHeld => ?_)
          refine Go.Proofs.YtogcjflneedcfaaDoorW.PrintLast.pure_ (i := 0) (N := some 55) (v := ?_) (a' := ?_) #[true, false, false, false, false, false, false, false, false, false, false, false, false, false, false, false, false, false, false, false, false, false, false, false, false] rfl rfl (by kernel_rfl) (fun _ _ _ h => h) (Or.inl ⟨by rfl, ?_⟩) ?_ ?_
          rotate_left
          · intro w'
            go_simp
            with_reducible rfl
          rotate_left
          · simp only [Act.put, List.setIfInBounds_toArray, List.set_cons_zero, List.set_cons_succ, Go.Proofs.YtogcjflneedcfaaDoorW.PrintLast.i64_w, Go.Proofs.YtogcjflneedcfaaDoorW.PrintLast.i32_w]
            rfl
          refine Go.Proofs.YtogcjflneedcfaaDoorW.PrintLast.pure_ (i := 1) (N := some 56) (v := ?_) (a' := ?_) #[true, true, false, false, false, false, false, false, false, false, false, false, false, false, false, false, false, false, false, false, false, false, false, false, false] rfl rfl (by kernel_rfl) (fun _ _ _ h => h) (Or.inl ⟨by rfl, ?_⟩) ?_ ?_
          rotate_left
          · intro w'
            go_simp
            with_reducible rfl
          rotate_left
          · simp only [Act.put, List.setIfInBounds_toArray, List.set_cons_zero, List.set_cons_succ, Go.Proofs.YtogcjflneedcfaaDoorW.PrintLast.i64_w, Go.Proofs.YtogcjflneedcfaaDoorW.PrintLast.i32_w]
            rfl
          refine Go.Proofs.YtogcjflneedcfaaDoorW.PrintLast.pure_ (i := 2) (N := some 57) (v := ?_) (a' := ?_) #[true, true, true, false, false, false, false, false, false, false, false, false, false, false, false, false, false, false, false, false, false, false, false, false, false] rfl rfl (by kernel_rfl) (fun _ _ _ h => h) (Or.inl ⟨by rfl, ?_⟩) ?_ ?_
          rotate_left
          · intro w'
            go_simp
            with_reducible rfl
          rotate_left
          · simp only [Act.put, List.setIfInBounds_toArray, List.set_cons_zero, List.set_cons_succ, Go.Proofs.YtogcjflneedcfaaDoorW.PrintLast.i64_w, Go.Proofs.YtogcjflneedcfaaDoorW.PrintLast.i32_w]
            rfl
          refine Go.Proofs.YtogcjflneedcfaaDoorW.PrintLast.pure_ (i := 3) (N := some 58) (v := ?_) (a' := ?_) #[true, true, true, true, false, false, false, false, false, false, false, false, false, false, false, false, false, false, false, false, false, false, false, false, false] rfl rfl (by kernel_rfl) (fun _ _ _ h => h) (Or.inl ⟨by rfl, ?_⟩) ?_ ?_
          rotate_left
          · intro w'
            go_simp
            with_reducible rfl
          rotate_left
          · simp only [Act.put, List.setIfInBounds_toArray, List.set_cons_zero, List.set_cons_succ, Go.Proofs.YtogcjflneedcfaaDoorW.PrintLast.i64_w, Go.Proofs.YtogcjflneedcfaaDoorW.PrintLast.i32_w]
            rfl
          refine Go.Proofs.YtogcjflneedcfaaDoorW.PrintLast.pure_ (i := 4) (N := some 59) (v := ?_) (a' := ?_) #[true, true, true, true, true, false, false, false, false, false, false, false, false, false, false, false, false, false, false, false, false, false, false, false, false] rfl rfl (by kernel_rfl) (fun _ _ _ h => h) (Or.inl ⟨by rfl, ?_⟩) ?_ ?_
          rotate_left
          · intro w'
            go_simp
            with_reducible rfl
          rotate_left
          · simp only [Act.put, List.setIfInBounds_toArray, List.set_cons_zero, List.set_cons_succ, Go.Proofs.YtogcjflneedcfaaDoorW.PrintLast.i64_w, Go.Proofs.YtogcjflneedcfaaDoorW.PrintLast.i32_w]
            rfl
          refine Go.Proofs.YtogcjflneedcfaaDoorW.PrintLast.take_ (i := 5) (N := some 60) (v := ?_) (a' := ?_) #[true, true, true, true, true, true, false, false, false, false, false, false, false, false, false, false, false, false, false, false, false, false, false, false, false] rfl rfl (by kernel_rfl) (fun _ _ _ h => h) (Or.inl ⟨by rfl, ?_⟩) hHeld ?_ ?_
          rotate_left
          · rintro w' ⟨ss, q0, q1, q2, q3, q4, q5, q6, q7, q8, q9, q10⟩
            go_simp
            with_reducible rfl
          rotate_left
          · simp only [Act.put, List.setIfInBounds_toArray, List.set_cons_zero, List.set_cons_succ, Go.Proofs.YtogcjflneedcfaaDoorW.PrintLast.i64_w, Go.Proofs.YtogcjflneedcfaaDoorW.PrintLast.i32_w]
            rfl
          refine Go.Proofs.YtogcjflneedcfaaDoorW.PrintLast.pure_ (i := 6) (N := some 61) (v := ?_) (a' := ?_) #[true, true, true, true, true, true, true, false, false, false, false, false, false, false, false, false, false, false, false, false, false, false, false, false, false] rfl rfl (by kernel_rfl) (fun _ _ _ h => h) (Or.inl ⟨by rfl, ?_⟩) ?_ ?_
          rotate_left
          · intro w'
            go_simp
            with_reducible rfl
          rotate_left
          · simp only [Act.put, List.setIfInBounds_toArray, List.set_cons_zero, List.set_cons_succ, Go.Proofs.YtogcjflneedcfaaDoorW.PrintLast.i64_w, Go.Proofs.YtogcjflneedcfaaDoorW.PrintLast.i32_w]
            rfl
          refine Go.Proofs.YtogcjflneedcfaaDoorW.PrintLast.one_ (i := 7) (N := some 62) #[true, true, true, true, true, true, true, true, false, false, false, false, false, false, false, false, false, false, false, false, false, false, false, false, false] rfl rfl (by kernel_rfl) (by decide) (fun K hK => ?_)
          refine Go.Proofs.YtogcjflneedcfaaDoorW.PrintLast.goes_ Tryd.func41 (by kernel_rfl) rfl #[.pointer (some ⟨p, 0, none⟩), .int .i64 tx, .agg #[.int .i64 ob.s, .string ob.t, .string ob.l, .string ob.u, .bool ob.e], .int .i64 m] (by rfl) rfl rfl (by (try simp only [List.map_toArray, List.map_cons, List.map_nil]); first | done | rfl) ?_
          refine (holds_b _ p rg tx ob m hhd _ hHeld.1.gl (HIR.out.below hHeld.1.b)).mono ?_
          rintro e w5 ⟨rfl, hb5⟩
          refine ⟨_, rfl, ?_⟩
          refine hK.out _ _ (held9 hb5 hHeld) (fun hHeld => ?_)
          clear hK K
          refine Go.Proofs.YtogcjflneedcfaaDoorW.PrintLast.norm_ (a' := ?_) ?_ ?_
          rotate_left
          · show Act.put _ (some 62) _ = _
            simp only [Act.put, List.setIfInBounds_toArray, List.set_cons_zero, List.set_cons_succ, Go.Proofs.YtogcjflneedcfaaDoorW.PrintLast.i64_w, Go.Proofs.YtogcjflneedcfaaDoorW.PrintLast.i32_w]
            rfl
          refine Go.Proofs.YtogcjflneedcfaaDoorW.PrintLast.pure_ (i := 8) (N := some 63) (v := ?_) (a' := ?_) #[true, true, true, true, true, true, true, true, true, false, false, false, false, false, false, false, false, false, false, false, false, false, false, false, false] rfl rfl (by kernel_rfl) (fun _ _ _ h => h) (Or.inl ⟨by rfl, ?_⟩) ?_ ?_
          rotate_left
          · intro w'
            go_simp
            with_reducible rfl
          rotate_left
          · simp only [Act.put, List.setIfInBounds_toArray, List.set_cons_zero, List.set_cons_succ, Go.Proofs.YtogcjflneedcfaaDoorW.PrintLast.i64_w, Go.Proofs.YtogcjflneedcfaaDoorW.PrintLast.i32_w]
            rfl
          refine Go.Proofs.YtogcjflneedcfaaDoorW.PrintLast.pure_ (i := 9) (N := some 64) (v := ?_) (a' := ?_) #[true, true, true, true, true, true, true, true, true, true, false, false, false, false, false, false, false, false, false, false, false, false, false, false, false] rfl rfl (by kernel_rfl) (fun _ _ _ h => h) (Or.inl ⟨by rfl, ?_⟩) ?_ ?_
          rotate_left
          · intro w'
            go_simp
            with_reducible rfl
          rotate_left
          · simp only [Act.put, List.setIfInBounds_toArray, List.set_cons_zero, List.set_cons_succ, Go.Proofs.YtogcjflneedcfaaDoorW.PrintLast.i64_w, Go.Proofs.YtogcjflneedcfaaDoorW.PrintLast.i32_w]
            rfl
          refine Go.Proofs.YtogcjflneedcfaaDoorW.PrintLast.pure_ (i := 10) (N := some 65) (v := _) (a' := ?_) #[true, true, true, true, true, true, true, true, true, true, true, false, false, false, false, false, false, false, false, false, false, false, false, false, false] rfl rfl (by kernel_rfl) (fun _ _ _ h => h) (Or.inr ⟨by rfl, rfl⟩) ?_ ?_
          rotate_left
          · simp only [Act.put, List.setIfInBounds_toArray, List.set_cons_zero, List.set_cons_succ, Go.Proofs.YtogcjflneedcfaaDoorW.PrintLast.i64_w, Go.Proofs.YtogcjflneedcfaaDoorW.PrintLast.i32_w]
            rfl
          refine Go.Proofs.YtogcjflneedcfaaDoorW.PrintLast.pure_ (i := 11) (N := some 66) (v := _) (a' := ?_) #[true, true, true, true, true, true, true, true, true, true, true, true, false, false, false, false, false, false, false, false, false, false, false, false, false] rfl rfl (by kernel_rfl) (fun _ _ _ h => h) (Or.inr ⟨by rfl, rfl⟩) ?_ ?_
          rotate_left
          · simp only [Act.put, List.setIfInBounds_toArray, List.set_cons_zero, List.set_cons_succ, Go.Proofs.YtogcjflneedcfaaDoorW.PrintLast.i64_w, Go.Proofs.YtogcjflneedcfaaDoorW.PrintLast.i32_w]
            rfl
          refine Go.Proofs.YtogcjflneedcfaaDoorW.PrintLast.pure_ (i := 12) (N := some 67) (v := _) (a' := ?_) #[true, true, true, true, true, true, true, true, true, true, true, true, true, false, false, false, false, false, false, false, false, false, false, false, false] rfl rfl (by kernel_rfl) (fun _ _ _ h => h) (Or.inr ⟨by rfl, rfl⟩) ?_ ?_
          rotate_left
          · simp only [Act.put, List.setIfInBounds_toArray, List.set_cons_zero, List.set_cons_succ, Go.Proofs.YtogcjflneedcfaaDoorW.PrintLast.i64_w, Go.Proofs.YtogcjflneedcfaaDoorW.PrintLast.i32_w]
            rfl
          refine Go.Proofs.YtogcjflneedcfaaDoorW.PrintLast.pure_ (i := 13) (N := some 68) (v := _) (a' := ?_) #[true, true, true, true, true, true, true, true, true, true, true, true, true, true, false, false, false, false, false, false, false, false, false, false, false] rfl rfl (by kernel_rfl) (fun _ _ _ h => h) (Or.inr ⟨by rfl, rfl⟩) ?_ ?_
          rotate_left
          · simp only [Act.put, List.setIfInBounds_toArray, List.set_cons_zero, List.set_cons_succ, Go.Proofs.YtogcjflneedcfaaDoorW.PrintLast.i64_w, Go.Proofs.YtogcjflneedcfaaDoorW.PrintLast.i32_w]
            rfl
          refine Go.Proofs.YtogcjflneedcfaaDoorW.PrintLast.pure_ (i := 14) (N := some 69) (v := _) (a' := ?_) #[true, true, true, true, true, true, true, true, true, true, true, true, true, true, true, false, false, false, false, false, false, false, false, false, false] rfl rfl (by kernel_rfl) (fun _ _ _ h => h) (Or.inr ⟨by rfl, rfl⟩) ?_ ?_
          rotate_left
          · simp only [Act.put, List.setIfInBounds_toArray, List.set_cons_zero, List.set_cons_succ, Go.Proofs.YtogcjflneedcfaaDoorW.PrintLast.i64_w, Go.Proofs.YtogcjflneedcfaaDoorW.PrintLast.i32_w]
            rfl
          refine Go.Proofs.YtogcjflneedcfaaDoorW.PrintLast.pure_ (i := 15) (N := some 70) (v := _) (a' := ?_) #[true, true, true, true, true, true, true, true, true, true, true, true, true, true, true, true, false, false, false, false, false, false, false, false, false] rfl rfl (by kernel_rfl) (fun _ _ _ h => h) (Or.inr ⟨by rfl, rfl⟩) ?_ ?_
          rotate_left
          · simp only [Act.put, List.setIfInBounds_toArray, List.set_cons_zero, List.set_cons_succ, Go.Proofs.YtogcjflneedcfaaDoorW.PrintLast.i64_w, Go.Proofs.YtogcjflneedcfaaDoorW.PrintLast.i32_w]
            rfl
          refine Go.Proofs.YtogcjflneedcfaaDoorW.PrintLast.pure_ (i := 16) (N := some 71) (v := ?_) (a' := ?_) #[true, true, true, true, true, true, true, true, true, true, true, true, true, true, true, true, true, false, false, false, false, false, false, false, false] rfl rfl (by kernel_rfl) (fun _ _ _ h => h) (Or.inl ⟨by rfl, ?_⟩) ?_ ?_
          rotate_left
          · intro w'
            go_simp
            with_reducible rfl
          rotate_left
          · simp only [Act.put, List.setIfInBounds_toArray, List.set_cons_zero, List.set_cons_succ, Go.Proofs.YtogcjflneedcfaaDoorW.PrintLast.i64_w, Go.Proofs.YtogcjflneedcfaaDoorW.PrintLast.i32_w]
            rfl
          refine Go.Proofs.YtogcjflneedcfaaDoorW.PrintLast.pure_ (i := 17) (N := some 72) (v := ?_) (a' := ?_) #[true, true, true, true, true, true, true, true, true, true, true, true, true, true, true, true, true, true, false, false, false, false, false, false, false] rfl rfl (by kernel_rfl) (fun _ _ _ h => h) (Or.inl ⟨by rfl, ?_⟩) ?_ ?_
          rotate_left
          · intro w'
            go_simp
            with_reducible rfl
          rotate_left
          · simp only [Act.put, List.setIfInBounds_toArray, List.set_cons_zero, List.set_cons_succ, Go.Proofs.YtogcjflneedcfaaDoorW.PrintLast.i64_w, Go.Proofs.YtogcjflneedcfaaDoorW.PrintLast.i32_w]
            rfl
          refine Go.Proofs.YtogcjflneedcfaaDoorW.PrintLast.pure_ (i := 18) (N := some 73) (v := _) (a' := ?_) #[true, true, true, true, true, true, true, true, true, true, true, true, true, true, true, true, true, true, true, false, false, false, false, false, false] rfl rfl (by kernel_rfl) (fun _ _ _ h => h) (Or.inr ⟨by rfl, rfl⟩) ?_ ?_
          rotate_left
          · simp only [Act.put, List.setIfInBounds_toArray, List.set_cons_zero, List.set_cons_succ, Go.Proofs.YtogcjflneedcfaaDoorW.PrintLast.i64_w, Go.Proofs.YtogcjflneedcfaaDoorW.PrintLast.i32_w]
            rfl
          refine Go.Proofs.YtogcjflneedcfaaDoorW.PrintLast.pure_ (i := 19) (N := some 74) (v := _) (a' := ?_) #[true, true, true, true, true, true, true, true, true, true, true, true, true, true, true, true, true, true, true, true, false, false, false, false, false] rfl rfl (by kernel_rfl) (fun _ _ _ h => h) (Or.inr ⟨by rfl, rfl⟩) ?_ ?_
          rotate_left
          · simp only [Act.put, List.setIfInBounds_toArray, List.set_cons_zero, List.set_cons_succ, Go.Proofs.YtogcjflneedcfaaDoorW.PrintLast.i64_w, Go.Proofs.YtogcjflneedcfaaDoorW.PrintLast.i32_w]
            rfl
          refine Go.Proofs.YtogcjflneedcfaaDoorW.PrintLast.pure_ (i := 20) (N := some 75) (v := _) (a' := ?_) #[true, true, true, true, true, true, true, true, true, true, true, true, true, true, true, true, true, true, true, true, true, false, false, false, false] rfl rfl (by kernel_rfl) (fun _ _ _ h => h) (Or.inr ⟨by rfl, rfl⟩) ?_ ?_
          rotate_left
          · simp only [Act.put, List.setIfInBounds_toArray, List.set_cons_zero, List.set_cons_succ, Go.Proofs.YtogcjflneedcfaaDoorW.PrintLast.i64_w, Go.Proofs.YtogcjflneedcfaaDoorW.PrintLast.i32_w]
            rfl
          refine Go.Proofs.YtogcjflneedcfaaDoorW.PrintLast.pure_ (i := 21) (N := some 76) (v := _) (a' := ?_) #[true, true, true, true, true, true, true, true, true, true, true, true, true, true, true, true, true, true, true, true, true, true, false, false, false] rfl rfl (by kernel_rfl) (fun _ _ _ h => h) (Or.inr ⟨by rfl, rfl⟩) ?_ ?_
          rotate_left
          · simp only [Act.put, List.setIfInBounds_toArray, List.set_cons_zero, List.set_cons_succ, Go.Proofs.YtogcjflneedcfaaDoorW.PrintLast.i64_w, Go.Proofs.YtogcjflneedcfaaDoorW.PrintLast.i32_w]
            rfl
          refine Go.Proofs.YtogcjflneedcfaaDoorW.PrintLast.pure_ (i := 22) (N := some 77) (v := _) (a' := ?_) #[true, true, true, true, true, true, true, true, true, true, true, true, true, true, true, true, true, true, true, true, true, true, true, false, false] rfl rfl (by kernel_rfl) (fun _ _ _ h => h) (Or.inr ⟨by rfl, rfl⟩) ?_ ?_
          rotate_left
          · simp only [Act.put, List.setIfInBounds_toArray, List.set_cons_zero, List.set_cons_succ, Go.Proofs.YtogcjflneedcfaaDoorW.PrintLast.i64_w, Go.Proofs.YtogcjflneedcfaaDoorW.PrintLast.i32_w]
            rfl
          refine Go.Proofs.YtogcjflneedcfaaDoorW.PrintLast.pure_ (i := 23) (N := some 78) (v := _) (a' := ?_) #[true, true, true, true, true, true, true, true, true, true, true, true, true, true, true, true, true, true, true, true, true, true, true, true, false] rfl rfl (by kernel_rfl) (fun _ _ _ h => h) (Or.inr ⟨by rfl, rfl⟩) ?_ ?_
          rotate_left
          · simp only [Act.put, List.setIfInBounds_toArray, List.set_cons_zero, List.set_cons_succ, Go.Proofs.YtogcjflneedcfaaDoorW.PrintLast.i64_w, Go.Proofs.YtogcjflneedcfaaDoorW.PrintLast.i32_w]
            rfl
          refine Go.Proofs.YtogcjflneedcfaaDoorW.PrintLast.pure_ (i := 24) (N := some 79) (v := ?_) (a' := ?_) #[true, true, true, true, true, true, true, true, true, true, true, true, true, true, true, true, true, true, true, true, true, true, true, true, true] rfl rfl (by kernel_rfl) (fun _ _ _ h => h) (Or.inl ⟨by rfl, ?_⟩) ?_ ?_
          rotate_left
          · intro w'
            go_simp
            with_reducible rfl
          rotate_left
          · simp only [Act.put, List.setIfInBounds_toArray, List.set_cons_zero, List.set_cons_succ, Go.Proofs.YtogcjflneedcfaaDoorW.PrintLast.i64_w, Go.Proofs.YtogcjflneedcfaaDoorW.PrintLast.i32_w]
            rfl
          refine Go.Proofs.YtogcjflneedcfaaDoorW.PrintLast.done_ (by kernel_rfl) ?_
          have HGO := Lib.hid hHeld.1
          clear hHeld c1 c2 c3 c4 c5 c6 b0 b1 b2 b3 b4
          go_wp2_with fail
          go_roundw
          case rel => exact ⟨k + 1, by go_num, by omega, HTN.out.below HGO.out.b, HFL.out.trans (Fr.of_below HGO.out.b), (HGO.out.b.block _ (Array.getElem?_eq_some_iff.1 HBL.out).1).trans HBL.out, HGO.out.gl⟩
          case measure => simp [intOf]; omega
        · cases hob : obEq rg.o ob
          · have hsame : shortF tx ob m sh rg = rg := by simp [shortF, hob]
            have HTN := Lib.hid (show TabAt wr D (.slice (some ⟨g, 0, none⟩) T.length c) ps ((T.take (k + 1)).map (shortF tx ob m sh) ++ T.drop (k + 1)) most by rw [shortK HR.out hsame, modify_self HRK.out]; exact HTL.out)
            subst hsh
            have hrob := fun w => run_ob rg.o ob w
            simp only [hob] at hrob
            refine Go.Proofs.YtogcjflneedcfaaDoorW.PrintLast.start_ (n := 25) (S := fun v => St wr v ∧ v.cell? ⟨p, 1, none⟩ = some (.int .i64 rg.o.s) ∧ v.cell? ⟨p, 2, none⟩ = some (.string rg.o.t) ∧ v.cell? ⟨p, 3, none⟩ = some (.string rg.o.l) ∧ v.cell? ⟨p, 4, none⟩ = some (.string rg.o.u) ∧ v.cell? ⟨p, 5, none⟩ = some (.bool rg.o.e) ∧ v.cell? ⟨p, 6, none⟩ = some (.int .i64 rg.m) ∧ v.cell? ⟨w.heap.size, 0, none⟩ = some (.int .i64 ob.s) ∧ v.cell? ⟨w.heap.size, 1, none⟩ = some (.string ob.t) ∧ v.cell? ⟨w.heap.size, 2, none⟩ = some (.string ob.l) ∧ v.cell? ⟨w.heap.size, 3, none⟩ = some (.string ob.u) ∧ v.cell? ⟨w.heap.size, 4, none⟩ = some (.bool ob.e)) (ds := [24]) #[false, false, false, false, false, false, false, false, false, false, false, false, false, false, false, false, false, false, false, false, false, false, false, false, false] (by kernel_rfl) rfl rfl ⟨(St.refl HGR.out).drew, c1, c2, c3, c4, c5, c6, b0, b1, b2, b3, b4⟩ (fun hHeld => ?_)
            refine Go.Proofs.YtogcjflneedcfaaDoorW.PrintLast.pure_ (i := 0) (N := some 55) (v := ?_) (a' := ?_) #[true, false, false, false, false, false, false, false, false, false, false, false, false, false, false, false, false, false, false, false, false, false, false, false, false] rfl rfl (by kernel_rfl) (fun _ _ _ h => h) (Or.inl ⟨by rfl, ?_⟩) ?_ ?_
            rotate_left
            · intro w'
              go_simp
              with_reducible rfl
            rotate_left
            · simp only [Act.put, List.setIfInBounds_toArray, List.set_cons_zero, List.set_cons_succ, Go.Proofs.YtogcjflneedcfaaDoorW.PrintLast.i64_w, Go.Proofs.YtogcjflneedcfaaDoorW.PrintLast.i32_w]
              rfl
            refine Go.Proofs.YtogcjflneedcfaaDoorW.PrintLast.pure_ (i := 1) (N := some 56) (v := ?_) (a' := ?_) #[true, true, false, false, false, false, false, false, false, false, false, false, false, false, false, false, false, false, false, false, false, false, false, false, false] rfl rfl (by kernel_rfl) (fun _ _ _ h => h) (Or.inl ⟨by rfl, ?_⟩) ?_ ?_
            rotate_left
            · intro w'
              go_simp
              with_reducible rfl
            rotate_left
            · simp only [Act.put, List.setIfInBounds_toArray, List.set_cons_zero, List.set_cons_succ, Go.Proofs.YtogcjflneedcfaaDoorW.PrintLast.i64_w, Go.Proofs.YtogcjflneedcfaaDoorW.PrintLast.i32_w]
              rfl
            refine Go.Proofs.YtogcjflneedcfaaDoorW.PrintLast.pure_ (i := 2) (N := some 57) (v := ?_) (a' := ?_) #[true, true, true, false, false, false, false, false, false, false, false, false, false, false, false, false, false, false, false, false, false, false, false, false, false] rfl rfl (by kernel_rfl) (fun _ _ _ h => h) (Or.inl ⟨by rfl, ?_⟩) ?_ ?_
            rotate_left
            · intro w'
              go_simp
              with_reducible rfl
            rotate_left
            · simp only [Act.put, List.setIfInBounds_toArray, List.set_cons_zero, List.set_cons_succ, Go.Proofs.YtogcjflneedcfaaDoorW.PrintLast.i64_w, Go.Proofs.YtogcjflneedcfaaDoorW.PrintLast.i32_w]
              rfl
            refine Go.Proofs.YtogcjflneedcfaaDoorW.PrintLast.pure_ (i := 3) (N := some 58) (v := ?_) (a' := ?_) #[true, true, true, true, false, false, false, false, false, false, false, false, false, false, false, false, false, false, false, false, false, false, false, false, false] rfl rfl (by kernel_rfl) (fun _ _ _ h => h) (Or.inl ⟨by rfl, ?_⟩) ?_ ?_
            rotate_left
            · intro w'
              go_simp
              with_reducible rfl
            rotate_left
            · simp only [Act.put, List.setIfInBounds_toArray, List.set_cons_zero, List.set_cons_succ, Go.Proofs.YtogcjflneedcfaaDoorW.PrintLast.i64_w, Go.Proofs.YtogcjflneedcfaaDoorW.PrintLast.i32_w]
              rfl
            refine Go.Proofs.YtogcjflneedcfaaDoorW.PrintLast.pure_ (i := 4) (N := some 59) (v := ?_) (a' := ?_) #[true, true, true, true, true, false, false, false, false, false, false, false, false, false, false, false, false, false, false, false, false, false, false, false, false] rfl rfl (by kernel_rfl) (fun _ _ _ h => h) (Or.inl ⟨by rfl, ?_⟩) ?_ ?_
            rotate_left
            · intro w'
              go_simp
              with_reducible rfl
            rotate_left
            · simp only [Act.put, List.setIfInBounds_toArray, List.set_cons_zero, List.set_cons_succ, Go.Proofs.YtogcjflneedcfaaDoorW.PrintLast.i64_w, Go.Proofs.YtogcjflneedcfaaDoorW.PrintLast.i32_w]
              rfl
            refine Go.Proofs.YtogcjflneedcfaaDoorW.PrintLast.take_ (i := 5) (N := some 60) (v := ?_) (a' := ?_) #[true, true, true, true, true, true, false, false, false, false, false, false, false, false, false, false, false, false, false, false, false, false, false, false, false] rfl rfl (by kernel_rfl) (fun _ _ _ h => h) (Or.inl ⟨by rfl, ?_⟩) hHeld ?_ ?_
            rotate_left
            · rintro w' ⟨ss, q0, q1, q2, q3, q4, q5, q6, q7, q8, q9, q10⟩
              go_simp
              with_reducible rfl
            rotate_left
            · simp only [Act.put, List.setIfInBounds_toArray, List.set_cons_zero, List.set_cons_succ, Go.Proofs.YtogcjflneedcfaaDoorW.PrintLast.i64_w, Go.Proofs.YtogcjflneedcfaaDoorW.PrintLast.i32_w]
              rfl
            refine Go.Proofs.YtogcjflneedcfaaDoorW.PrintLast.pure_ (i := 6) (N := some 61) (v := ?_) (a' := ?_) #[true, true, true, true, true, true, true, false, false, false, false, false, false, false, false, false, false, false, false, false, false, false, false, false, false] rfl rfl (by kernel_rfl) (fun _ _ _ h => h) (Or.inl ⟨by rfl, ?_⟩) ?_ ?_
            rotate_left
            · intro w'
              go_simp
              with_reducible rfl
            rotate_left
            · simp only [Act.put, List.setIfInBounds_toArray, List.set_cons_zero, List.set_cons_succ, Go.Proofs.YtogcjflneedcfaaDoorW.PrintLast.i64_w, Go.Proofs.YtogcjflneedcfaaDoorW.PrintLast.i32_w]
              rfl
            refine Go.Proofs.YtogcjflneedcfaaDoorW.PrintLast.one_ (i := 7) (N := some 62) #[true, true, true, true, true, true, true, true, false, false, false, false, false, false, false, false, false, false, false, false, false, false, false, false, false] rfl rfl (by kernel_rfl) (by decide) (fun K hK => ?_)
            refine Go.Proofs.YtogcjflneedcfaaDoorW.PrintLast.goes_ Tryd.func41 (by kernel_rfl) rfl #[.pointer (some ⟨p, 0, none⟩), .int .i64 tx, .agg #[.int .i64 ob.s, .string ob.t, .string ob.l, .string ob.u, .bool ob.e], .int .i64 m] (by rfl) rfl rfl (by (try simp only [List.map_toArray, List.map_cons, List.map_nil]); first | done | rfl) ?_
            refine (holds_b _ p rg tx ob m hhd _ hHeld.1.gl (HIR.out.below hHeld.1.b)).mono ?_
            rintro e w5 ⟨rfl, hb5⟩
            refine ⟨_, rfl, ?_⟩
            refine hK.out _ _ (held9 hb5 hHeld) (fun hHeld => ?_)
            clear hK K
            refine Go.Proofs.YtogcjflneedcfaaDoorW.PrintLast.norm_ (a' := ?_) ?_ ?_
            rotate_left
            · show Act.put _ (some 62) _ = _
              simp only [Act.put, List.setIfInBounds_toArray, List.set_cons_zero, List.set_cons_succ, Go.Proofs.YtogcjflneedcfaaDoorW.PrintLast.i64_w, Go.Proofs.YtogcjflneedcfaaDoorW.PrintLast.i32_w]
              rfl
            refine Go.Proofs.YtogcjflneedcfaaDoorW.PrintLast.pure_ (i := 8) (N := some 63) (v := ?_) (a' := ?_) #[true, true, true, true, true, true, true, true, true, false, false, false, false, false, false, false, false, false, false, false, false, false, false, false, false] rfl rfl (by kernel_rfl) (fun _ _ _ h => h) (Or.inl ⟨by rfl, ?_⟩) ?_ ?_
            rotate_left
            · intro w'
              go_simp
              with_reducible rfl
            rotate_left
            · simp only [Act.put, List.setIfInBounds_toArray, List.set_cons_zero, List.set_cons_succ, Go.Proofs.YtogcjflneedcfaaDoorW.PrintLast.i64_w, Go.Proofs.YtogcjflneedcfaaDoorW.PrintLast.i32_w]
              rfl
            refine Go.Proofs.YtogcjflneedcfaaDoorW.PrintLast.pure_ (i := 9) (N := some 64) (v := ?_) (a' := ?_) #[true, true, true, true, true, true, true, true, true, true, false, false, false, false, false, false, false, false, false, false, false, false, false, false, false] rfl rfl (by kernel_rfl) (fun _ _ _ h => h) (Or.inl ⟨by rfl, ?_⟩) ?_ ?_
            rotate_left
            · intro w'
              go_simp
              with_reducible rfl
            rotate_left
            · simp only [Act.put, List.setIfInBounds_toArray, List.set_cons_zero, List.set_cons_succ, Go.Proofs.YtogcjflneedcfaaDoorW.PrintLast.i64_w, Go.Proofs.YtogcjflneedcfaaDoorW.PrintLast.i32_w]
              rfl
            refine Go.Proofs.YtogcjflneedcfaaDoorW.PrintLast.pure_ (i := 10) (N := some 65) (v := ?_) (a' := ?_) #[true, true, true, true, true, true, true, true, true, true, true, false, false, false, false, false, false, false, false, false, false, false, false, false, false] rfl rfl (by kernel_rfl) (fun _ _ _ h => h) (Or.inl ⟨by rfl, ?_⟩) ?_ ?_
            rotate_left
            · intro w'
              go_simp
              with_reducible rfl
            rotate_left
            · simp only [Act.put, List.setIfInBounds_toArray, List.set_cons_zero, List.set_cons_succ, Go.Proofs.YtogcjflneedcfaaDoorW.PrintLast.i64_w, Go.Proofs.YtogcjflneedcfaaDoorW.PrintLast.i32_w]
              rfl
            refine Go.Proofs.YtogcjflneedcfaaDoorW.PrintLast.pure_ (i := 11) (N := some 66) (v := ?_) (a' := ?_) #[true, true, true, true, true, true, true, true, true, true, true, true, false, false, false, false, false, false, false, false, false, false, false, false, false] rfl rfl (by kernel_rfl) (fun _ _ _ h => h) (Or.inl ⟨by rfl, ?_⟩) ?_ ?_
            rotate_left
            · intro w'
              go_simp
              with_reducible rfl
            rotate_left
            · simp only [Act.put, List.setIfInBounds_toArray, List.set_cons_zero, List.set_cons_succ, Go.Proofs.YtogcjflneedcfaaDoorW.PrintLast.i64_w, Go.Proofs.YtogcjflneedcfaaDoorW.PrintLast.i32_w]
              rfl
            refine Go.Proofs.YtogcjflneedcfaaDoorW.PrintLast.pure_ (i := 12) (N := some 67) (v := ?_) (a' := ?_) #[true, true, true, true, true, true, true, true, true, true, true, true, true, false, false, false, false, false, false, false, false, false, false, false, false] rfl rfl (by kernel_rfl) (fun _ _ _ h => h) (Or.inl ⟨by rfl, ?_⟩) ?_ ?_
            rotate_left
            · intro w'
              go_simp
              with_reducible rfl
            rotate_left
            · simp only [Act.put, List.setIfInBounds_toArray, List.set_cons_zero, List.set_cons_succ, Go.Proofs.YtogcjflneedcfaaDoorW.PrintLast.i64_w, Go.Proofs.YtogcjflneedcfaaDoorW.PrintLast.i32_w]
              rfl
            refine Go.Proofs.YtogcjflneedcfaaDoorW.PrintLast.take_ (i := 13) (N := some 68) (v := ?_) (a' := ?_) #[true, true, true, true, true, true, true, true, true, true, true, true, true, true, false, false, false, false, false, false, false, false, false, false, false] rfl rfl (by kernel_rfl) (fun _ _ _ h => h) (Or.inl ⟨by rfl, ?_⟩) hHeld ?_ ?_
            rotate_left
            · rintro w' ⟨ss, q0, q1, q2, q3, q4, q5, q6, q7, q8, q9, q10⟩
              go_simp
              with_reducible rfl
            rotate_left
            · simp only [Act.put, List.setIfInBounds_toArray, List.set_cons_zero, List.set_cons_succ, Go.Proofs.YtogcjflneedcfaaDoorW.PrintLast.i64_w, Go.Proofs.YtogcjflneedcfaaDoorW.PrintLast.i32_w]
              rfl
            refine Go.Proofs.YtogcjflneedcfaaDoorW.PrintLast.take_ (i := 14) (N := some 69) (v := ?_) (a' := ?_) #[true, true, true, true, true, true, true, true, true, true, true, true, true, true, true, false, false, false, false, false, false, false, false, false, false] rfl rfl (by kernel_rfl) (fun _ _ _ h => h) (Or.inl ⟨by rfl, ?_⟩) hHeld ?_ ?_
            rotate_left
            · rintro w' ⟨ss, q0, q1, q2, q3, q4, q5, q6, q7, q8, q9, q10⟩
              go_simp
              with_reducible rfl
            rotate_left
            · simp only [Act.put, List.setIfInBounds_toArray, List.set_cons_zero, List.set_cons_succ, Go.Proofs.YtogcjflneedcfaaDoorW.PrintLast.i64_w, Go.Proofs.YtogcjflneedcfaaDoorW.PrintLast.i32_w]
              rfl
            refine Go.Proofs.YtogcjflneedcfaaDoorW.PrintLast.pure_ (i := 15) (N := some 70) (v := ?_) (a' := ?_) #[true, true, true, true, true, true, true, true, true, true, true, true, true, true, true, true, false, false, false, false, false, false, false, false, false] rfl rfl (by kernel_rfl) (fun _ _ _ h => h) (Or.inl ⟨by rfl, ?_⟩) ?_ ?_
            rotate_left
            · intro w'
              go_simp
              with_reducible rfl
            rotate_left
            · simp only [Act.put, List.setIfInBounds_toArray, List.set_cons_zero, List.set_cons_succ, Go.Proofs.YtogcjflneedcfaaDoorW.PrintLast.i64_w, Go.Proofs.YtogcjflneedcfaaDoorW.PrintLast.i32_w]
              rfl
            refine Go.Proofs.YtogcjflneedcfaaDoorW.PrintLast.pure_ (i := 16) (N := some 71) (v := ?_) (a' := ?_) #[true, true, true, true, true, true, true, true, true, true, true, true, true, true, true, true, true, false, false, false, false, false, false, false, false] rfl rfl (by kernel_rfl) (fun _ _ _ h => h) (Or.inl ⟨by rfl, ?_⟩) ?_ ?_
            rotate_left
            · intro w'
              go_simp
              with_reducible rfl
            rotate_left
            · simp only [Act.put, List.setIfInBounds_toArray, List.set_cons_zero, List.set_cons_succ, Go.Proofs.YtogcjflneedcfaaDoorW.PrintLast.i64_w, Go.Proofs.YtogcjflneedcfaaDoorW.PrintLast.i32_w]
              rfl
            refine Go.Proofs.YtogcjflneedcfaaDoorW.PrintLast.pure_ (i := 17) (N := some 72) (v := ?_) (a' := ?_) #[true, true, true, true, true, true, true, true, true, true, true, true, true, true, true, true, true, true, false, false, false, false, false, false, false] rfl rfl (by kernel_rfl) (fun _ _ _ h => h) (Or.inl ⟨by rfl, ?_⟩) ?_ ?_
            rotate_left
            · intro w'
              go_simp
              with_reducible rfl
            rotate_left
            · simp only [Act.put, List.setIfInBounds_toArray, List.set_cons_zero, List.set_cons_succ, Go.Proofs.YtogcjflneedcfaaDoorW.PrintLast.i64_w, Go.Proofs.YtogcjflneedcfaaDoorW.PrintLast.i32_w]
              rfl
            refine Go.Proofs.YtogcjflneedcfaaDoorW.PrintLast.pure_ (i := 18) (N := some 73) (v := _) (a' := ?_) #[true, true, true, true, true, true, true, true, true, true, true, true, true, true, true, true, true, true, true, false, false, false, false, false, false] rfl rfl (by kernel_rfl) (fun _ _ _ h => h) (Or.inr ⟨by rfl, rfl⟩) ?_ ?_
            rotate_left
            · simp only [Act.put, List.setIfInBounds_toArray, List.set_cons_zero, List.set_cons_succ, Go.Proofs.YtogcjflneedcfaaDoorW.PrintLast.i64_w, Go.Proofs.YtogcjflneedcfaaDoorW.PrintLast.i32_w]
              rfl
            refine Go.Proofs.YtogcjflneedcfaaDoorW.PrintLast.pure_ (i := 19) (N := some 74) (v := _) (a' := ?_) #[true, true, true, true, true, true, true, true, true, true, true, true, true, true, true, true, true, true, true, true, false, false, false, false, false] rfl rfl (by kernel_rfl) (fun _ _ _ h => h) (Or.inr ⟨by rfl, rfl⟩) ?_ ?_
            rotate_left
            · simp only [Act.put, List.setIfInBounds_toArray, List.set_cons_zero, List.set_cons_succ, Go.Proofs.YtogcjflneedcfaaDoorW.PrintLast.i64_w, Go.Proofs.YtogcjflneedcfaaDoorW.PrintLast.i32_w]
              rfl
            refine Go.Proofs.YtogcjflneedcfaaDoorW.PrintLast.pure_ (i := 20) (N := some 75) (v := _) (a' := ?_) #[true, true, true, true, true, true, true, true, true, true, true, true, true, true, true, true, true, true, true, true, true, false, false, false, false] rfl rfl (by kernel_rfl) (fun _ _ _ h => h) (Or.inr ⟨by rfl, rfl⟩) ?_ ?_
            rotate_left
            · simp only [Act.put, List.setIfInBounds_toArray, List.set_cons_zero, List.set_cons_succ, Go.Proofs.YtogcjflneedcfaaDoorW.PrintLast.i64_w, Go.Proofs.YtogcjflneedcfaaDoorW.PrintLast.i32_w]
              rfl
            refine Go.Proofs.YtogcjflneedcfaaDoorW.PrintLast.pure_ (i := 21) (N := some 76) (v := _) (a' := ?_) #[true, true, true, true, true, true, true, true, true, true, true, true, true, true, true, true, true, true, true, true, true, true, false, false, false] rfl rfl (by kernel_rfl) (fun _ _ _ h => h) (Or.inr ⟨by rfl, rfl⟩) ?_ ?_
            rotate_left
            · simp only [Act.put, List.setIfInBounds_toArray, List.set_cons_zero, List.set_cons_succ, Go.Proofs.YtogcjflneedcfaaDoorW.PrintLast.i64_w, Go.Proofs.YtogcjflneedcfaaDoorW.PrintLast.i32_w]
              rfl
            refine Go.Proofs.YtogcjflneedcfaaDoorW.PrintLast.pure_ (i := 22) (N := some 77) (v := _) (a' := ?_) #[true, true, true, true, true, true, true, true, true, true, true, true, true, true, true, true, true, true, true, true, true, true, true, false, false] rfl rfl (by kernel_rfl) (fun _ _ _ h => h) (Or.inr ⟨by rfl, rfl⟩) ?_ ?_
            rotate_left
            · simp only [Act.put, List.setIfInBounds_toArray, List.set_cons_zero, List.set_cons_succ, Go.Proofs.YtogcjflneedcfaaDoorW.PrintLast.i64_w, Go.Proofs.YtogcjflneedcfaaDoorW.PrintLast.i32_w]
              rfl
            refine Go.Proofs.YtogcjflneedcfaaDoorW.PrintLast.pure_ (i := 23) (N := some 78) (v := _) (a' := ?_) #[true, true, true, true, true, true, true, true, true, true, true, true, true, true, true, true, true, true, true, true, true, true, true, true, false] rfl rfl (by kernel_rfl) (fun _ _ _ h => h) (Or.inr ⟨by rfl, rfl⟩) ?_ ?_
            rotate_left
            · simp only [Act.put, List.setIfInBounds_toArray, List.set_cons_zero, List.set_cons_succ, Go.Proofs.YtogcjflneedcfaaDoorW.PrintLast.i64_w, Go.Proofs.YtogcjflneedcfaaDoorW.PrintLast.i32_w]
              rfl
            refine Go.Proofs.YtogcjflneedcfaaDoorW.PrintLast.pure_ (i := 24) (N := some 79) (v := ?_) (a' := ?_) #[true, true, true, true, true, true, true, true, true, true, true, true, true, true, true, true, true, true, true, true, true, true, true, true, true] rfl rfl (by kernel_rfl) (fun _ _ _ h => h) (Or.inl ⟨by rfl, ?_⟩) ?_ ?_
            rotate_left
            · intro w'
              go_simp
              with_reducible rfl
            rotate_left
            · simp only [Act.put, List.setIfInBounds_toArray, List.set_cons_zero, List.set_cons_succ, Go.Proofs.YtogcjflneedcfaaDoorW.PrintLast.i64_w, Go.Proofs.YtogcjflneedcfaaDoorW.PrintLast.i32_w]
              rfl
            refine Go.Proofs.YtogcjflneedcfaaDoorW.PrintLast.done_ (by kernel_rfl) ?_
            have HGO := Lib.hid hHeld.1
            clear hHeld c1 c2 c3 c4 c5 c6 b0 b1 b2 b3 b4
            go_wp2_with fail
            go_roundw
            case rel => exact ⟨k + 1, by go_num, by omega, HTN.out.below HGO.out.b, HFL.out.trans (Fr.of_below HGO.out.b), (HGO.out.b.block _ (Array.getElem?_eq_some_iff.1 HBL.out).1).trans HBL.out, HGO.out.gl⟩
            case measure => simp [intOf]; omega
          · by_cases hm9 : rg.m = m
            · have t8 : decide (rg.m = m) = true := decide_eq_true hm9
              have t8' : (rg.m == m) = true := by simpa using hm9
              have HSH := Lib.hid (show shortF tx ob m sh rg = { rg with s := false } by simp [shortF, hsh, hhd, hob, hm9])
              subst hsh
              have hrob := fun w => run_ob rg.o ob w
              simp only [hob] at hrob
              refine Go.Proofs.YtogcjflneedcfaaDoorW.PrintLast.start_ (n := 25) (S := fun v => St wr v ∧ v.cell? ⟨p, 1, none⟩ = some (.int .i64 rg.o.s) ∧ v.cell? ⟨p, 2, none⟩ = some (.string rg.o.t) ∧ v.cell? ⟨p, 3, none⟩ = some (.string rg.o.l) ∧ v.cell? ⟨p, 4, none⟩ = some (.string rg.o.u) ∧ v.cell? ⟨p, 5, none⟩ = some (.bool rg.o.e) ∧ v.cell? ⟨p, 6, none⟩ = some (.int .i64 rg.m) ∧ v.cell? ⟨w.heap.size, 0, none⟩ = some (.int .i64 ob.s) ∧ v.cell? ⟨w.heap.size, 1, none⟩ = some (.string ob.t) ∧ v.cell? ⟨w.heap.size, 2, none⟩ = some (.string ob.l) ∧ v.cell? ⟨w.heap.size, 3, none⟩ = some (.string ob.u) ∧ v.cell? ⟨w.heap.size, 4, none⟩ = some (.bool ob.e)) (ds := [24]) #[false, false, false, false, false, false, false, false, false, false, false, false, false, false, false, false, false, false, false, false, false, false, false, false, false] (by kernel_rfl) rfl rfl ⟨(St.refl HGR.out).drew, c1, c2, c3, c4, c5, c6, b0, b1, b2, b3, b4⟩ (fun hHeld => ?_)
              refine Go.Proofs.YtogcjflneedcfaaDoorW.PrintLast.pure_ (i := 0) (N := some 55) (v := ?_) (a' := ?_) #[true, false, false, false, false, false, false, false, false, false, false, false, false, false, false, false, false, false, false, false, false, false, false, false, false] rfl rfl (by kernel_rfl) (fun _ _ _ h => h) (Or.inl ⟨by rfl, ?_⟩) ?_ ?_
              rotate_left
              · intro w'
                go_simp
                with_reducible rfl
              rotate_left
              · simp only [Act.put, List.setIfInBounds_toArray, List.set_cons_zero, List.set_cons_succ, Go.Proofs.YtogcjflneedcfaaDoorW.PrintLast.i64_w, Go.Proofs.YtogcjflneedcfaaDoorW.PrintLast.i32_w]
                rfl
              refine Go.Proofs.YtogcjflneedcfaaDoorW.PrintLast.pure_ (i := 1) (N := some 56) (v := ?_) (a' := ?_) #[true, true, false, false, false, false, false, false, false, false, false, false, false, false, false, false, false, false, false, false, false, false, false, false, false] rfl rfl (by kernel_rfl) (fun _ _ _ h => h) (Or.inl ⟨by rfl, ?_⟩) ?_ ?_
              rotate_left
              · intro w'
                go_simp
                with_reducible rfl
              rotate_left
              · simp only [Act.put, List.setIfInBounds_toArray, List.set_cons_zero, List.set_cons_succ, Go.Proofs.YtogcjflneedcfaaDoorW.PrintLast.i64_w, Go.Proofs.YtogcjflneedcfaaDoorW.PrintLast.i32_w]
                rfl
              refine Go.Proofs.YtogcjflneedcfaaDoorW.PrintLast.pure_ (i := 2) (N := some 57) (v := ?_) (a' := ?_) #[true, true, true, false, false, false, false, false, false, false, false, false, false, false, false, false, false, false, false, false, false, false, false, false, false] rfl rfl (by kernel_rfl) (fun _ _ _ h => h) (Or.inl ⟨by rfl, ?_⟩) ?_ ?_
              rotate_left
              · intro w'
                go_simp
                with_reducible rfl
              rotate_left
              · simp only [Act.put, List.setIfInBounds_toArray, List.set_cons_zero, List.set_cons_succ, Go.Proofs.YtogcjflneedcfaaDoorW.PrintLast.i64_w, Go.Proofs.YtogcjflneedcfaaDoorW.PrintLast.i32_w]
                rfl
              refine Go.Proofs.YtogcjflneedcfaaDoorW.PrintLast.pure_ (i := 3) (N := some 58) (v := ?_) (a' := ?_) #[true, true, true, true, false, false, false, false, false, false, false, false, false, false, false, false, false, false, false, false, false, false, false, false, false] rfl rfl (by kernel_rfl) (fun _ _ _ h => h) (Or.inl ⟨by rfl, ?_⟩) ?_ ?_
              rotate_left
              · intro w'
                go_simp
                with_reducible rfl
              rotate_left
              · simp only [Act.put, List.setIfInBounds_toArray, List.set_cons_zero, List.set_cons_succ, Go.Proofs.YtogcjflneedcfaaDoorW.PrintLast.i64_w, Go.Proofs.YtogcjflneedcfaaDoorW.PrintLast.i32_w]
                rfl
              refine Go.Proofs.YtogcjflneedcfaaDoorW.PrintLast.pure_ (i := 4) (N := some 59) (v := ?_) (a' := ?_) #[true, true, true, true, true, false, false, false, false, false, false, false, false, false, false, false, false, false, false, false, false, false, false, false, false] rfl rfl (by kernel_rfl) (fun _ _ _ h => h) (Or.inl ⟨by rfl, ?_⟩) ?_ ?_
              rotate_left
              · intro w'
                go_simp
                with_reducible rfl
              rotate_left
              · simp only [Act.put, List.setIfInBounds_toArray, List.set_cons_zero, List.set_cons_succ, Go.Proofs.YtogcjflneedcfaaDoorW.PrintLast.i64_w, Go.Proofs.YtogcjflneedcfaaDoorW.PrintLast.i32_w]
                rfl
              refine Go.Proofs.YtogcjflneedcfaaDoorW.PrintLast.take_ (i := 5) (N := some 60) (v := ?_) (a' := ?_) #[true, true, true, true, true, true, false, false, false, false, false, false, false, false, false, false, false, false, false, false, false, false, false, false, false] rfl rfl (by kernel_rfl) (fun _ _ _ h => h) (Or.inl ⟨by rfl, ?_⟩) hHeld ?_ ?_
              rotate_left
              · rintro w' ⟨ss, q0, q1, q2, q3, q4, q5, q6, q7, q8, q9, q10⟩
                go_simp
                with_reducible rfl
              rotate_left
              · simp only [Act.put, List.setIfInBounds_toArray, List.set_cons_zero, List.set_cons_succ, Go.Proofs.YtogcjflneedcfaaDoorW.PrintLast.i64_w, Go.Proofs.YtogcjflneedcfaaDoorW.PrintLast.i32_w]
                rfl
              refine Go.Proofs.YtogcjflneedcfaaDoorW.PrintLast.pure_ (i := 6) (N := some 61) (v := ?_) (a' := ?_) #[true, true, true, true, true, true, true, false, false, false, false, false, false, false, false, false, false, false, false, false, false, false, false, false, false] rfl rfl (by kernel_rfl) (fun _ _ _ h => h) (Or.inl ⟨by rfl, ?_⟩) ?_ ?_
              rotate_left
              · intro w'
                go_simp
                with_reducible rfl
              rotate_left
              · simp only [Act.put, List.setIfInBounds_toArray, List.set_cons_zero, List.set_cons_succ, Go.Proofs.YtogcjflneedcfaaDoorW.PrintLast.i64_w, Go.Proofs.YtogcjflneedcfaaDoorW.PrintLast.i32_w]
                rfl
              refine Go.Proofs.YtogcjflneedcfaaDoorW.PrintLast.one_ (i := 7) (N := some 62) #[true, true, true, true, true, true, true, true, false, false, false, false, false, false, false, false, false, false, false, false, false, false, false, false, false] rfl rfl (by kernel_rfl) (by decide) (fun K hK => ?_)
              refine Go.Proofs.YtogcjflneedcfaaDoorW.PrintLast.goes_ Tryd.func41 (by kernel_rfl) rfl #[.pointer (some ⟨p, 0, none⟩), .int .i64 tx, .agg #[.int .i64 ob.s, .string ob.t, .string ob.l, .string ob.u, .bool ob.e], .int .i64 m] (by rfl) rfl rfl (by (try simp only [List.map_toArray, List.map_cons, List.map_nil]); first | done | rfl) ?_
              refine (holds_b _ p rg tx ob m hhd _ hHeld.1.gl (HIR.out.below hHeld.1.b)).mono ?_
              rintro e w5 ⟨rfl, hb5⟩
              refine ⟨_, rfl, ?_⟩
              refine hK.out _ _ (held9 hb5 hHeld) (fun hHeld => ?_)
              clear hK K
              refine Go.Proofs.YtogcjflneedcfaaDoorW.PrintLast.norm_ (a' := ?_) ?_ ?_
              rotate_left
              · show Act.put _ (some 62) _ = _
                simp only [Act.put, List.setIfInBounds_toArray, List.set_cons_zero, List.set_cons_succ, Go.Proofs.YtogcjflneedcfaaDoorW.PrintLast.i64_w, Go.Proofs.YtogcjflneedcfaaDoorW.PrintLast.i32_w]
                rfl
              refine Go.Proofs.YtogcjflneedcfaaDoorW.PrintLast.pure_ (i := 8) (N := some 63) (v := ?_) (a' := ?_) #[true, true, true, true, true, true, true, true, true, false, false, false, false, false, false, false, false, false, false, false, false, false, false, false, false] rfl rfl (by kernel_rfl) (fun _ _ _ h => h) (Or.inl ⟨by rfl, ?_⟩) ?_ ?_
              rotate_left
              · intro w'
                go_simp
                with_reducible rfl
              rotate_left
              · simp only [Act.put, List.setIfInBounds_toArray, List.set_cons_zero, List.set_cons_succ, Go.Proofs.YtogcjflneedcfaaDoorW.PrintLast.i64_w, Go.Proofs.YtogcjflneedcfaaDoorW.PrintLast.i32_w]
                rfl
              refine Go.Proofs.YtogcjflneedcfaaDoorW.PrintLast.pure_ (i := 9) (N := some 64) (v := ?_) (a' := ?_) #[true, true, true, true, true, true, true, true, true, true, false, false, false, false, false, false, false, false, false, false, false, false, false, false, false] rfl rfl (by kernel_rfl) (fun _ _ _ h => h) (Or.inl ⟨by rfl, ?_⟩) ?_ ?_
              rotate_left
              · intro w'
                go_simp
                with_reducible rfl
              rotate_left
              · simp only [Act.put, List.setIfInBounds_toArray, List.set_cons_zero, List.set_cons_succ, Go.Proofs.YtogcjflneedcfaaDoorW.PrintLast.i64_w, Go.Proofs.YtogcjflneedcfaaDoorW.PrintLast.i32_w]
                rfl
              refine Go.Proofs.YtogcjflneedcfaaDoorW.PrintLast.pure_ (i := 10) (N := some 65) (v := ?_) (a' := ?_) #[true, true, true, true, true, true, true, true, true, true, true, false, false, false, false, false, false, false, false, false, false, false, false, false, false] rfl rfl (by kernel_rfl) (fun _ _ _ h => h) (Or.inl ⟨by rfl, ?_⟩) ?_ ?_
              rotate_left
              · intro w'
                go_simp
                with_reducible rfl
              rotate_left
              · simp only [Act.put, List.setIfInBounds_toArray, List.set_cons_zero, List.set_cons_succ, Go.Proofs.YtogcjflneedcfaaDoorW.PrintLast.i64_w, Go.Proofs.YtogcjflneedcfaaDoorW.PrintLast.i32_w]
                rfl
              refine Go.Proofs.YtogcjflneedcfaaDoorW.PrintLast.pure_ (i := 11) (N := some 66) (v := ?_) (a' := ?_) #[true, true, true, true, true, true, true, true, true, true, true, true, false, false, false, false, false, false, false, false, false, false, false, false, false] rfl rfl (by kernel_rfl) (fun _ _ _ h => h) (Or.inl ⟨by rfl, ?_⟩) ?_ ?_
              rotate_left
              · intro w'
                go_simp
                with_reducible rfl
              rotate_left
              · simp only [Act.put, List.setIfInBounds_toArray, List.set_cons_zero, List.set_cons_succ, Go.Proofs.YtogcjflneedcfaaDoorW.PrintLast.i64_w, Go.Proofs.YtogcjflneedcfaaDoorW.PrintLast.i32_w]
                rfl
              refine Go.Proofs.YtogcjflneedcfaaDoorW.PrintLast.pure_ (i := 12) (N := some 67) (v := ?_) (a' := ?_) #[true, true, true, true, true, true, true, true, true, true, true, true, true, false, false, false, false, false, false, false, false, false, false, false, false] rfl rfl (by kernel_rfl) (fun _ _ _ h => h) (Or.inl ⟨by rfl, ?_⟩) ?_ ?_
              rotate_left
              · intro w'
                go_simp
                with_reducible rfl
              rotate_left
              · simp only [Act.put, List.setIfInBounds_toArray, List.set_cons_zero, List.set_cons_succ, Go.Proofs.YtogcjflneedcfaaDoorW.PrintLast.i64_w, Go.Proofs.YtogcjflneedcfaaDoorW.PrintLast.i32_w]
                rfl
              refine Go.Proofs.YtogcjflneedcfaaDoorW.PrintLast.take_ (i := 13) (N := some 68) (v := ?_) (a' := ?_) #[true, true, true, true, true, true, true, true, true, true, true, true, true, true, false, false, false, false, false, false, false, false, false, false, false] rfl rfl (by kernel_rfl) (fun _ _ _ h => h) (Or.inl ⟨by rfl, ?_⟩) hHeld ?_ ?_
              rotate_left
              · rintro w' ⟨ss, q0, q1, q2, q3, q4, q5, q6, q7, q8, q9, q10⟩
                go_simp
                with_reducible rfl
              rotate_left
              · simp only [Act.put, List.setIfInBounds_toArray, List.set_cons_zero, List.set_cons_succ, Go.Proofs.YtogcjflneedcfaaDoorW.PrintLast.i64_w, Go.Proofs.YtogcjflneedcfaaDoorW.PrintLast.i32_w]
                rfl
              refine Go.Proofs.YtogcjflneedcfaaDoorW.PrintLast.take_ (i := 14) (N := some 69) (v := ?_) (a' := ?_) #[true, true, true, true, true, true, true, true, true, true, true, true, true, true, true, false, false, false, false, false, false, false, false, false, false] rfl rfl (by kernel_rfl) (fun _ _ _ h => h) (Or.inl ⟨by rfl, ?_⟩) hHeld ?_ ?_
              rotate_left
              · rintro w' ⟨ss, q0, q1, q2, q3, q4, q5, q6, q7, q8, q9, q10⟩
                go_simp
                with_reducible rfl
              rotate_left
              · simp only [Act.put, List.setIfInBounds_toArray, List.set_cons_zero, List.set_cons_succ, Go.Proofs.YtogcjflneedcfaaDoorW.PrintLast.i64_w, Go.Proofs.YtogcjflneedcfaaDoorW.PrintLast.i32_w]
                rfl
              refine Go.Proofs.YtogcjflneedcfaaDoorW.PrintLast.pure_ (i := 15) (N := some 70) (v := ?_) (a' := ?_) #[true, true, true, true, true, true, true, true, true, true, true, true, true, true, true, true, false, false, false, false, false, false, false, false, false] rfl rfl (by kernel_rfl) (fun _ _ _ h => h) (Or.inl ⟨by rfl, ?_⟩) ?_ ?_
              rotate_left
              · intro w'
                go_simp
                with_reducible rfl
              rotate_left
              · simp only [Act.put, List.setIfInBounds_toArray, List.set_cons_zero, List.set_cons_succ, Go.Proofs.YtogcjflneedcfaaDoorW.PrintLast.i64_w, Go.Proofs.YtogcjflneedcfaaDoorW.PrintLast.i32_w]
                rfl
              refine Go.Proofs.YtogcjflneedcfaaDoorW.PrintLast.pure_ (i := 16) (N := some 71) (v := ?_) (a' := ?_) #[true, true, true, true, true, true, true, true, true, true, true, true, true, true, true, true, true, false, false, false, false, false, false, false, false] rfl rfl (by kernel_rfl) (fun _ _ _ h => h) (Or.inl ⟨by rfl, ?_⟩) ?_ ?_
              rotate_left
              · intro w'
                go_simp
                with_reducible rfl
              rotate_left
              · simp only [Act.put, List.setIfInBounds_toArray, List.set_cons_zero, List.set_cons_succ, Go.Proofs.YtogcjflneedcfaaDoorW.PrintLast.i64_w, Go.Proofs.YtogcjflneedcfaaDoorW.PrintLast.i32_w]
                rfl
              refine Go.Proofs.YtogcjflneedcfaaDoorW.PrintLast.pure_ (i := 17) (N := some 72) (v := ?_) (a' := ?_) #[true, true, true, true, true, true, true, true, true, true, true, true, true, true, true, true, true, true, false, false, false, false, false, false, false] rfl rfl (by kernel_rfl) (fun _ _ _ h => h) (Or.inl ⟨by rfl, ?_⟩) ?_ ?_
              rotate_left
              · intro w'
                go_simp
                with_reducible rfl
              rotate_left
              · simp only [Act.put, List.setIfInBounds_toArray, List.set_cons_zero, List.set_cons_succ, Go.Proofs.YtogcjflneedcfaaDoorW.PrintLast.i64_w, Go.Proofs.YtogcjflneedcfaaDoorW.PrintLast.i32_w]
                rfl
              refine Go.Proofs.YtogcjflneedcfaaDoorW.PrintLast.pure_ (i := 18) (N := some 73) (v := ?_) (a' := ?_) #[true, true, true, true, true, true, true, true, true, true, true, true, true, true, true, true, true, true, true, false, false, false, false, false, false] rfl rfl (by kernel_rfl) (fun _ _ _ h => h) (Or.inl ⟨by rfl, ?_⟩) ?_ ?_
              rotate_left
              · intro w'
                go_simp
                with_reducible rfl
              rotate_left
              · simp only [Act.put, List.setIfInBounds_toArray, List.set_cons_zero, List.set_cons_succ, Go.Proofs.YtogcjflneedcfaaDoorW.PrintLast.i64_w, Go.Proofs.YtogcjflneedcfaaDoorW.PrintLast.i32_w]
                rfl
              refine Go.Proofs.YtogcjflneedcfaaDoorW.PrintLast.pure_ (i := 19) (N := some 74) (v := ?_) (a' := ?_) #[true, true, true, true, true, true, true, true, true, true, true, true, true, true, true, true, true, true, true, true, false, false, false, false, false] rfl rfl (by kernel_rfl) (fun _ _ _ h => h) (Or.inl ⟨by rfl, ?_⟩) ?_ ?_
              rotate_left
              · intro w'
                go_simp
                with_reducible rfl
              rotate_left
              · simp only [Act.put, List.setIfInBounds_toArray, List.set_cons_zero, List.set_cons_succ, Go.Proofs.YtogcjflneedcfaaDoorW.PrintLast.i64_w, Go.Proofs.YtogcjflneedcfaaDoorW.PrintLast.i32_w]
                rfl
              refine Go.Proofs.YtogcjflneedcfaaDoorW.PrintLast.pure_ (i := 20) (N := some 75) (v := ?_) (a' := ?_) #[true, true, true, true, true, true, true, true, true, true, true, true, true, true, true, true, true, true, true, true, true, false, false, false, false] rfl rfl (by kernel_rfl) (fun _ _ _ h => h) (Or.inl ⟨by rfl, ?_⟩) ?_ ?_
              rotate_left
              · intro w'
                go_simp
                with_reducible rfl
              rotate_left
              · simp only [Act.put, List.setIfInBounds_toArray, List.set_cons_zero, List.set_cons_succ, Go.Proofs.YtogcjflneedcfaaDoorW.PrintLast.i64_w, Go.Proofs.YtogcjflneedcfaaDoorW.PrintLast.i32_w]
                rfl
              refine Go.Proofs.YtogcjflneedcfaaDoorW.PrintLast.take_ (i := 21) (N := some 76) (v := ?_) (a' := ?_) #[true, true, true, true, true, true, true, true, true, true, true, true, true, true, true, true, true, true, true, true, true, true, false, false, false] rfl rfl (by kernel_rfl) (fun _ _ _ h => h) (Or.inl ⟨by rfl, ?_⟩) hHeld ?_ ?_
              rotate_left
              · rintro w' ⟨ss, q0, q1, q2, q3, q4, q5, q6, q7, q8, q9, q10⟩
                go_simp
                with_reducible rfl
              rotate_left
              · simp only [Act.put, List.setIfInBounds_toArray, List.set_cons_zero, List.set_cons_succ, Go.Proofs.YtogcjflneedcfaaDoorW.PrintLast.i64_w, Go.Proofs.YtogcjflneedcfaaDoorW.PrintLast.i32_w]
                rfl
              refine Go.Proofs.YtogcjflneedcfaaDoorW.PrintLast.pure_ (i := 22) (N := some 77) (v := ?_) (a' := ?_) #[true, true, true, true, true, true, true, true, true, true, true, true, true, true, true, true, true, true, true, true, true, true, true, false, false] rfl rfl (by kernel_rfl) (fun _ _ _ h => h) (Or.inl ⟨by rfl, ?_⟩) ?_ ?_
              rotate_left
              · intro w'
                go_simp
                with_reducible rfl
              rotate_left
              · simp only [Act.put, List.setIfInBounds_toArray, List.set_cons_zero, List.set_cons_succ, Go.Proofs.YtogcjflneedcfaaDoorW.PrintLast.i64_w, Go.Proofs.YtogcjflneedcfaaDoorW.PrintLast.i32_w]
                rfl
              refine Go.Proofs.YtogcjflneedcfaaDoorW.PrintLast.pure_ (i := 23) (N := some 78) (v := ?_) (a' := ?_) #[true, true, true, true, true, true, true, true, true, true, true, true, true, true, true, true, true, true, true, true, true, true, true, true, false] rfl rfl (by kernel_rfl) (fun _ _ _ h => h) (Or.inl ⟨by rfl, ?_⟩) ?_ ?_
              rotate_left
              · intro w'
                go_simp
                with_reducible rfl
              rotate_left
              · simp only [Act.put, List.setIfInBounds_toArray, List.set_cons_zero, List.set_cons_succ, Go.Proofs.YtogcjflneedcfaaDoorW.PrintLast.i64_w, Go.Proofs.YtogcjflneedcfaaDoorW.PrintLast.i32_w]
                rfl
              refine Go.Proofs.YtogcjflneedcfaaDoorW.PrintLast.pure_ (i := 24) (N := some 79) (v := ?_) (a' := ?_) #[true, true, true, true, true, true, true, true, true, true, true, true, true, true, true, true, true, true, true, true, true, true, true, true, true] rfl rfl (by kernel_rfl) (fun _ _ _ h => h) (Or.inl ⟨by rfl, ?_⟩) ?_ ?_
              rotate_left
              · intro w'
                go_simp
                with_reducible rfl
              rotate_left
              · simp only [Act.put, List.setIfInBounds_toArray, List.set_cons_zero, List.set_cons_succ, Go.Proofs.YtogcjflneedcfaaDoorW.PrintLast.i64_w, Go.Proofs.YtogcjflneedcfaaDoorW.PrintLast.i32_w]
                rfl
              refine Go.Proofs.YtogcjflneedcfaaDoorW.PrintLast.done_ (by kernel_rfl) ?_
              have HGO := Lib.hid hHeld.1
              clear hHeld c1 c2 c3 c4 c5 c6 b0 b1 b2 b3 b4
              have HT5 := Lib.hid (HTL.out.below HGO.out.b)
              have hir5 := HIR.out.below HGO.out.b
              have y8 := hir5.cells.2.2.2.2.2.2.2.2
              have yf : w5.frozen? ⟨p, 8, none⟩ = false := by simp [World.frozen?, show w5.heap[p]? = _ from hir5]
              have hput := HT5.out.put HP.out 8 (.bool false) (fun _ => { rg with s := false }) (fun r hr => by have e := HRK.out.symm.trans hr; cases e; rfl)
              rw [← shortK HR.out HSH.out] at hput
              have HPT := Lib.hid hput
              have hbp := kind_ne ((HGO.out.b.block _ (Array.getElem?_eq_some_iff.1 HBL.out).1).trans HBL.out) hir5 (by decide)
              have HBP := Lib.hid ((Below.heap_setCell w5 ⟨p, 8, none⟩ (.bool false) _ hbp).trans ((HGO.out.b.block _ (Array.getElem?_eq_some_iff.1 HBL.out).1).trans HBL.out))
              have HFP := Lib.hid (HFL.out.trans ((Fr.of_below HGO.out.b).trans (hput.2.mono (G := F) fun b _ hb => by rw [hb]; exact HF.out p (.inr (.inl (List.mem_of_getElem? HP.out))))))
              have HGP := Lib.hid (hput.2.gl HGO.out.gl (fun b hb => by rw [hb]; exact HT.out.lo p (.inr (.inl (List.mem_of_getElem? HP.out)))))
              clear hput hir5 hbp
              go_wp2_with fail
              go_roundw
              case rel => exact ⟨k + 1, by go_num, by omega, HPT.out.1, HFP.out, HBP.out, HGP.out⟩
              case measure => simp [intOf]; omega
            · have t8 : decide (rg.m = m) = false := decide_eq_false hm9
              have t8' : (rg.m == m) = false := by simpa using hm9
              have hsame : shortF tx ob m sh rg = rg := by simp [shortF, hm9]
              have HTN := Lib.hid (show TabAt wr D (.slice (some ⟨g, 0, none⟩) T.length c) ps ((T.take (k + 1)).map (shortF tx ob m sh) ++ T.drop (k + 1)) most by rw [shortK HR.out hsame, modify_self HRK.out]; exact HTL.out)
              subst hsh
              have hrob := fun w => run_ob rg.o ob w
              simp only [hob] at hrob
              refine Go.Proofs.YtogcjflneedcfaaDoorW.PrintLast.start_ (n := 25) (S := fun v => St wr v ∧ v.cell? ⟨p, 1, none⟩ = some (.int .i64 rg.o.s) ∧ v.cell? ⟨p, 2, none⟩ = some (.string rg.o.t) ∧ v.cell? ⟨p, 3, none⟩ = some (.string rg.o.l) ∧ v.cell? ⟨p, 4, none⟩ = some (.string rg.o.u) ∧ v.cell? ⟨p, 5, none⟩ = some (.bool rg.o.e) ∧ v.cell? ⟨p, 6, none⟩ = some (.int .i64 rg.m) ∧ v.cell? ⟨w.heap.size, 0, none⟩ = some (.int .i64 ob.s) ∧ v.cell? ⟨w.heap.size, 1, none⟩ = some (.string ob.t) ∧ v.cell? ⟨w.heap.size, 2, none⟩ = some (.string ob.l) ∧ v.cell? ⟨w.heap.size, 3, none⟩ = some (.string ob.u) ∧ v.cell? ⟨w.heap.size, 4, none⟩ = some (.bool ob.e)) (ds := [24]) #[false, false, false, false, false, false, false, false, false, false, false, false, false, false, false, false, false, false, false, false, false, false, false, false, false] (by kernel_rfl) rfl rfl ⟨(St.refl HGR.out).drew, c1, c2, c3, c4, c5, c6, b0, b1, b2, b3, b4⟩ (fun hHeld => ?_)
              refine Go.Proofs.YtogcjflneedcfaaDoorW.PrintLast.pure_ (i := 0) (N := some 55) (v := ?_) (a' := ?_) #[true, false, false, false, false, false, false, false, false, false, false, false, false, false, false, false, false, false, false, false, false, false, false, false, false] rfl rfl (by kernel_rfl) (fun _ _ _ h => h) (Or.inl ⟨by rfl, ?_⟩) ?_ ?_
              rotate_left
              · intro w'
                go_simp
                with_reducible rfl
              rotate_left
              · simp only [Act.put, List.setIfInBounds_toArray, List.set_cons_zero, List.set_cons_succ, Go.Proofs.YtogcjflneedcfaaDoorW.PrintLast.i64_w, Go.Proofs.YtogcjflneedcfaaDoorW.PrintLast.i32_w]
                rfl
              refine Go.Proofs.YtogcjflneedcfaaDoorW.PrintLast.pure_ (i := 1) (N := some 56) (v := ?_) (a' := ?_) #[true, true, false, false, false, false, false, false, false, false, false, false, false, false, false, false, false, false, false, false, false, false, false, false, false] rfl rfl (by kernel_rfl) (fun _ _ _ h => h) (Or.inl ⟨by rfl, ?_⟩) ?_ ?_
              rotate_left
              · intro w'
                go_simp
                with_reducible rfl
              rotate_left
              · simp only [Act.put, List.setIfInBounds_toArray, List.set_cons_zero, List.set_cons_succ, Go.Proofs.YtogcjflneedcfaaDoorW.PrintLast.i64_w, Go.Proofs.YtogcjflneedcfaaDoorW.PrintLast.i32_w]
                rfl
              refine Go.Proofs.YtogcjflneedcfaaDoorW.PrintLast.pure_ (i := 2) (N := some 57) (v := ?_) (a' := ?_) #[true, true, true, false, false, false, false, false, false, false, false, false, false, false, false, false, false, false, false, false, false, false, false, false, false] rfl rfl (by kernel_rfl) (fun _ _ _ h => h) (Or.inl ⟨by rfl, ?_⟩) ?_ ?_
              rotate_left
              · intro w'
                go_simp
                with_reducible rfl
              rotate_left
              · simp only [Act.put, List.setIfInBounds_toArray, List.set_cons_zero, List.set_cons_succ, Go.Proofs.YtogcjflneedcfaaDoorW.PrintLast.i64_w, Go.Proofs.YtogcjflneedcfaaDoorW.PrintLast.i32_w]
                rfl
              refine Go.Proofs.YtogcjflneedcfaaDoorW.PrintLast.pure_ (i := 3) (N := some 58) (v := ?_) (a' := ?_) #[true, true, true, true, false, false, false, false, false, false, false, false, false, false, false, false, false, false, false, false, false, false, false, false, false] rfl rfl (by kernel_rfl) (fun _ _ _ h => h) (Or.inl ⟨by rfl, ?_⟩) ?_ ?_
              rotate_left
              · intro w'
                go_simp
                with_reducible rfl
              rotate_left
              · simp only [Act.put, List.setIfInBounds_toArray, List.set_cons_zero, List.set_cons_succ, Go.Proofs.YtogcjflneedcfaaDoorW.PrintLast.i64_w, Go.Proofs.YtogcjflneedcfaaDoorW.PrintLast.i32_w]
                rfl
              refine Go.Proofs.YtogcjflneedcfaaDoorW.PrintLast.pure_ (i := 4) (N := some 59) (v := ?_) (a' := ?_) #[true, true, true, true, true, false, false, false, false, false, false, false, false, false, false, false, false, false, false, false, false, false, false, false, false] rfl rfl (by kernel_rfl) (fun _ _ _ h => h) (Or.inl ⟨by rfl, ?_⟩) ?_ ?_
              rotate_left
              · intro w'
                go_simp
                with_reducible rfl
              rotate_left
              · simp only [Act.put, List.setIfInBounds_toArray, List.set_cons_zero, List.set_cons_succ, Go.Proofs.YtogcjflneedcfaaDoorW.PrintLast.i64_w, Go.Proofs.YtogcjflneedcfaaDoorW.PrintLast.i32_w]
                rfl
              refine Go.Proofs.YtogcjflneedcfaaDoorW.PrintLast.take_ (i := 5) (N := some 60) (v := ?_) (a' := ?_) #[true, true, true, true, true, true, false, false, false, false, false, false, false, false, false, false, false, false, false, false, false, false, false, false, false] rfl rfl (by kernel_rfl) (fun _ _ _ h => h) (Or.inl ⟨by rfl, ?_⟩) hHeld ?_ ?_
              rotate_left
              · rintro w' ⟨ss, q0, q1, q2, q3, q4, q5, q6, q7, q8, q9, q10⟩
                go_simp
                with_reducible rfl
              rotate_left
              · simp only [Act.put, List.setIfInBounds_toArray, List.set_cons_zero, List.set_cons_succ, Go.Proofs.YtogcjflneedcfaaDoorW.PrintLast.i64_w, Go.Proofs.YtogcjflneedcfaaDoorW.PrintLast.i32_w]
                rfl
              refine Go.Proofs.YtogcjflneedcfaaDoorW.PrintLast.pure_ (i := 6) (N := some 61) (v := ?_) (a' := ?_) #[true, true, true, true, true, true, true, false, false, false, false, false, false, false, false, false, false, false, false, false, false, false, false, false, false] rfl rfl (by kernel_rfl) (fun _ _ _ h => h) (Or.inl ⟨by rfl, ?_⟩) ?_ ?_
              rotate_left
              · intro w'
                go_simp
                with_reducible rfl
              rotate_left
              · simp only [Act.put, List.setIfInBounds_toArray, List.set_cons_zero, List.set_cons_succ, Go.Proofs.YtogcjflneedcfaaDoorW.PrintLast.i64_w, Go.Proofs.YtogcjflneedcfaaDoorW.PrintLast.i32_w]
                rfl
              refine Go.Proofs.YtogcjflneedcfaaDoorW.PrintLast.one_ (i := 7) (N := some 62) #[true, true, true, true, true, true, true, true, false, false, false, false, false, false, false, false, false, false, false, false, false, false, false, false, false] rfl rfl (by kernel_rfl) (by decide) (fun K hK => ?_)
              refine Go.Proofs.YtogcjflneedcfaaDoorW.PrintLast.goes_ Tryd.func41 (by kernel_rfl) rfl #[.pointer (some ⟨p, 0, none⟩), .int .i64 tx, .agg #[.int .i64 ob.s, .string ob.t, .string ob.l, .string ob.u, .bool ob.e], .int .i64 m] (by rfl) rfl rfl (by (try simp only [List.map_toArray, List.map_cons, List.map_nil]); first | done | rfl) ?_
              refine (holds_b _ p rg tx ob m hhd _ hHeld.1.gl (HIR.out.below hHeld.1.b)).mono ?_
              rintro e w5 ⟨rfl, hb5⟩
              refine ⟨_, rfl, ?_⟩
              refine hK.out _ _ (held9 hb5 hHeld) (fun hHeld => ?_)
              clear hK K
              refine Go.Proofs.YtogcjflneedcfaaDoorW.PrintLast.norm_ (a' := ?_) ?_ ?_
              rotate_left
              · show Act.put _ (some 62) _ = _
                simp only [Act.put, List.setIfInBounds_toArray, List.set_cons_zero, List.set_cons_succ, Go.Proofs.YtogcjflneedcfaaDoorW.PrintLast.i64_w, Go.Proofs.YtogcjflneedcfaaDoorW.PrintLast.i32_w]
                rfl
              refine Go.Proofs.YtogcjflneedcfaaDoorW.PrintLast.pure_ (i := 8) (N := some 63) (v := ?_) (a' := ?_) #[true, true, true, true, true, true, true, true, true, false, false, false, false, false, false, false, false, false, false, false, false, false, false, false, false] rfl rfl (by kernel_rfl) (fun _ _ _ h => h) (Or.inl ⟨by rfl, ?_⟩) ?_ ?_
              rotate_left
              · intro w'
                go_simp
                with_reducible rfl
              rotate_left
              · simp only [Act.put, List.setIfInBounds_toArray, List.set_cons_zero, List.set_cons_succ, Go.Proofs.YtogcjflneedcfaaDoorW.PrintLast.i64_w, Go.Proofs.YtogcjflneedcfaaDoorW.PrintLast.i32_w]
                rfl
              refine Go.Proofs.YtogcjflneedcfaaDoorW.PrintLast.pure_ (i := 9) (N := some 64) (v := ?_) (a' := ?_) #[true, true, true, true, true, true, true, true, true, true, false, false, false, false, false, false, false, false, false, false, false, false, false, false, false] rfl rfl (by kernel_rfl) (fun _ _ _ h => h) (Or.inl ⟨by rfl, ?_⟩) ?_ ?_
              rotate_left
              · intro w'
                go_simp
                with_reducible rfl
              rotate_left
              · simp only [Act.put, List.setIfInBounds_toArray, List.set_cons_zero, List.set_cons_succ, Go.Proofs.YtogcjflneedcfaaDoorW.PrintLast.i64_w, Go.Proofs.YtogcjflneedcfaaDoorW.PrintLast.i32_w]
                rfl
              refine Go.Proofs.YtogcjflneedcfaaDoorW.PrintLast.pure_ (i := 10) (N := some 65) (v := ?_) (a' := ?_) #[true, true, true, true, true, true, true, true, true, true, true, false, false, false, false, false, false, false, false, false, false, false, false, false, false] rfl rfl (by kernel_rfl) (fun _ _ _ h => h) (Or.inl ⟨by rfl, ?_⟩) ?_ ?_
              rotate_left
              · intro w'
                go_simp
                with_reducible rfl
              rotate_left
              · simp only [Act.put, List.setIfInBounds_toArray, List.set_cons_zero, List.set_cons_succ, Go.Proofs.YtogcjflneedcfaaDoorW.PrintLast.i64_w, Go.Proofs.YtogcjflneedcfaaDoorW.PrintLast.i32_w]
                rfl
              refine Go.Proofs.YtogcjflneedcfaaDoorW.PrintLast.pure_ (i := 11) (N := some 66) (v := ?_) (a' := ?_) #[true, true, true, true, true, true, true, true, true, true, true, true, false, false, false, false, false, false, false, false, false, false, false, false, false] rfl rfl (by kernel_rfl) (fun _ _ _ h => h) (Or.inl ⟨by rfl, ?_⟩) ?_ ?_
              rotate_left
              · intro w'
                go_simp
                with_reducible rfl
              rotate_left
              · simp only [Act.put, List.setIfInBounds_toArray, List.set_cons_zero, List.set_cons_succ, Go.Proofs.YtogcjflneedcfaaDoorW.PrintLast.i64_w, Go.Proofs.YtogcjflneedcfaaDoorW.PrintLast.i32_w]
                rfl
              refine Go.Proofs.YtogcjflneedcfaaDoorW.PrintLast.pure_ (i := 12) (N := some 67) (v := ?_) (a' := ?_) #[true, true, true, true, true, true, true, true, true, true, true, true, true, false, false, false, false, false, false, false, false, false, false, false, false] rfl rfl (by kernel_rfl) (fun _ _ _ h => h) (Or.inl ⟨by rfl, ?_⟩) ?_ ?_
              rotate_left
              · intro w'
                go_simp
                with_reducible rfl
              rotate_left
              · simp only [Act.put, List.setIfInBounds_toArray, List.set_cons_zero, List.set_cons_succ, Go.Proofs.YtogcjflneedcfaaDoorW.PrintLast.i64_w, Go.Proofs.YtogcjflneedcfaaDoorW.PrintLast.i32_w]
                rfl
              refine Go.Proofs.YtogcjflneedcfaaDoorW.PrintLast.take_ (i := 13) (N := some 68) (v := ?_) (a' := ?_) #[true, true, true, true, true, true, true, true, true, true, true, true, true, true, false, false, false, false, false, false, false, false, false, false, false] rfl rfl (by kernel_rfl) (fun _ _ _ h => h) (Or.inl ⟨by rfl, ?_⟩) hHeld ?_ ?_
              rotate_left
              · rintro w' ⟨ss, q0, q1, q2, q3, q4, q5, q6, q7, q8, q9, q10⟩
                go_simp
                with_reducible rfl
              rotate_left
              · simp only [Act.put, List.setIfInBounds_toArray, List.set_cons_zero, List.set_cons_succ, Go.Proofs.YtogcjflneedcfaaDoorW.PrintLast.i64_w, Go.Proofs.YtogcjflneedcfaaDoorW.PrintLast.i32_w]
                rfl
              refine Go.Proofs.YtogcjflneedcfaaDoorW.PrintLast.take_ (i := 14) (N := some 69) (v := ?_) (a' := ?_) #[true, true, true, true, true, true, true, true, true, true, true, true, true, true, true, false, false, false, false, false, false, false, false, false, false] rfl rfl (by kernel_rfl) (fun _ _ _ h => h) (Or.inl ⟨by rfl, ?_⟩) hHeld ?_ ?_
              rotate_left
              · rintro w' ⟨ss, q0, q1, q2, q3, q4, q5, q6, q7, q8, q9, q10⟩
                go_simp
                with_reducible rfl
              rotate_left
              · simp only [Act.put, List.setIfInBounds_toArray, List.set_cons_zero, List.set_cons_succ, Go.Proofs.YtogcjflneedcfaaDoorW.PrintLast.i64_w, Go.Proofs.YtogcjflneedcfaaDoorW.PrintLast.i32_w]
                rfl
              refine Go.Proofs.YtogcjflneedcfaaDoorW.PrintLast.pure_ (i := 15) (N := some 70) (v := ?_) (a' := ?_) #[true, true, true, true, true, true, true, true, true, true, true, true, true, true, true, true, false, false, false, false, false, false, false, false, false] rfl rfl (by kernel_rfl) (fun _ _ _ h => h) (Or.inl ⟨by rfl, ?_⟩) ?_ ?_
              rotate_left
              · intro w'
                go_simp
                with_reducible rfl
              rotate_left
              · simp only [Act.put, List.setIfInBounds_toArray, List.set_cons_zero, List.set_cons_succ, Go.Proofs.YtogcjflneedcfaaDoorW.PrintLast.i64_w, Go.Proofs.YtogcjflneedcfaaDoorW.PrintLast.i32_w]
                rfl
              refine Go.Proofs.YtogcjflneedcfaaDoorW.PrintLast.pure_ (i := 16) (N := some 71) (v := ?_) (a' := ?_) #[true, true, true, true, true, true, true, true, true, true, true, true, true, true, true, true, true, false, false, false, false, false, false, false, false] rfl rfl (by kernel_rfl) (fun _ _ _ h => h) (Or.inl ⟨by rfl, ?_⟩) ?_ ?_
              rotate_left
              · intro w'
                go_simp
                with_reducible rfl
              rotate_left
              · simp only [Act.put, List.setIfInBounds_toArray, List.set_cons_zero, List.set_cons_succ, Go.Proofs.YtogcjflneedcfaaDoorW.PrintLast.i64_w, Go.Proofs.YtogcjflneedcfaaDoorW.PrintLast.i32_w]
                rfl
              refine Go.Proofs.YtogcjflneedcfaaDoorW.PrintLast.pure_ (i := 17) (N := some 72) (v := ?_) (a' := ?_) #[true, true, true, true, true, true, true, true, true, true, true, true, true, true, true, true, true, true, false, false, false, false, false, false, false] rfl rfl (by kernel_rfl) (fun _ _ _ h => h) (Or.inl ⟨by rfl, ?_⟩) ?_ ?_
              rotate_left
              · intro w'
                go_simp
                with_reducible rfl
              rotate_left
              · simp only [Act.put, List.setIfInBounds_toArray, List.set_cons_zero, List.set_cons_succ, Go.Proofs.YtogcjflneedcfaaDoorW.PrintLast.i64_w, Go.Proofs.YtogcjflneedcfaaDoorW.PrintLast.i32_w]
                rfl
              refine Go.Proofs.YtogcjflneedcfaaDoorW.PrintLast.pure_ (i := 18) (N := some 73) (v := ?_) (a' := ?_) #[true, true, true, true, true, true, true, true, true, true, true, true, true, true, true, true, true, true, true, false, false, false, false, false, false] rfl rfl (by kernel_rfl) (fun _ _ _ h => h) (Or.inl ⟨by rfl, ?_⟩) ?_ ?_
              rotate_left
              · intro w'
                go_simp
                with_reducible rfl
              rotate_left
              · simp only [Act.put, List.setIfInBounds_toArray, List.set_cons_zero, List.set_cons_succ, Go.Proofs.YtogcjflneedcfaaDoorW.PrintLast.i64_w, Go.Proofs.YtogcjflneedcfaaDoorW.PrintLast.i32_w]
                rfl
              refine Go.Proofs.YtogcjflneedcfaaDoorW.PrintLast.pure_ (i := 19) (N := some 74) (v := ?_) (a' := ?_) #[true, true, true, true, true, true, true, true, true, true, true, true, true, true, true, true, true, true, true, true, false, false, false, false, false] rfl rfl (by kernel_rfl) (fun _ _ _ h => h) (Or.inl ⟨by rfl, ?_⟩) ?_ ?_
              rotate_left
              · intro w'
                go_simp
                with_reducible rfl
              rotate_left
              · simp only [Act.put, List.setIfInBounds_toArray, List.set_cons_zero, List.set_cons_succ, Go.Proofs.YtogcjflneedcfaaDoorW.PrintLast.i64_w, Go.Proofs.YtogcjflneedcfaaDoorW.PrintLast.i32_w]
                rfl
              refine Go.Proofs.YtogcjflneedcfaaDoorW.PrintLast.pure_ (i := 20) (N := some 75) (v := ?_) (a' := ?_) #[true, true, true, true, true, true, true, true, true, true, true, true, true, true, true, true, true, true, true, true, true, false, false, false, false] rfl rfl (by kernel_rfl) (fun _ _ _ h => h) (Or.inl ⟨by rfl, ?_⟩) ?_ ?_
              rotate_left
              · intro w'
                go_simp
                with_reducible rfl
              rotate_left
              · simp only [Act.put, List.setIfInBounds_toArray, List.set_cons_zero, List.set_cons_succ, Go.Proofs.YtogcjflneedcfaaDoorW.PrintLast.i64_w, Go.Proofs.YtogcjflneedcfaaDoorW.PrintLast.i32_w]
                rfl
              refine Go.Proofs.YtogcjflneedcfaaDoorW.PrintLast.take_ (i := 21) (N := some 76) (v := ?_) (a' := ?_) #[true, true, true, true, true, true, true, true, true, true, true, true, true, true, true, true, true, true, true, true, true, true, false, false, false] rfl rfl (by kernel_rfl) (fun _ _ _ h => h) (Or.inl ⟨by rfl, ?_⟩) hHeld ?_ ?_
              rotate_left
              · rintro w' ⟨ss, q0, q1, q2, q3, q4, q5, q6, q7, q8, q9, q10⟩
                go_simp
                with_reducible rfl
              rotate_left
              · simp only [Act.put, List.setIfInBounds_toArray, List.set_cons_zero, List.set_cons_succ, Go.Proofs.YtogcjflneedcfaaDoorW.PrintLast.i64_w, Go.Proofs.YtogcjflneedcfaaDoorW.PrintLast.i32_w]
                rfl
              refine Go.Proofs.YtogcjflneedcfaaDoorW.PrintLast.pure_ (i := 22) (N := some 77) (v := ?_) (a' := ?_) #[true, true, true, true, true, true, true, true, true, true, true, true, true, true, true, true, true, true, true, true, true, true, true, false, false] rfl rfl (by kernel_rfl) (fun _ _ _ h => h) (Or.inl ⟨by rfl, ?_⟩) ?_ ?_
              rotate_left
              · intro w'
                go_simp
                with_reducible rfl
              rotate_left
              · simp only [Act.put, List.setIfInBounds_toArray, List.set_cons_zero, List.set_cons_succ, Go.Proofs.YtogcjflneedcfaaDoorW.PrintLast.i64_w, Go.Proofs.YtogcjflneedcfaaDoorW.PrintLast.i32_w]
                rfl
              refine Go.Proofs.YtogcjflneedcfaaDoorW.PrintLast.pure_ (i := 23) (N := some 78) (v := ?_) (a' := ?_) #[true, true, true, true, true, true, true, true, true, true, true, true, true, true, true, true, true, true, true, true, true, true, true, true, false] rfl rfl (by kernel_rfl) (fun _ _ _ h => h) (Or.inl ⟨by rfl, ?_⟩) ?_ ?_
              rotate_left
              · intro w'
                go_simp
                with_reducible rfl
              rotate_left
              · simp only [Act.put, List.setIfInBounds_toArray, List.set_cons_zero, List.set_cons_succ, Go.Proofs.YtogcjflneedcfaaDoorW.PrintLast.i64_w, Go.Proofs.YtogcjflneedcfaaDoorW.PrintLast.i32_w]
                rfl
              refine Go.Proofs.YtogcjflneedcfaaDoorW.PrintLast.pure_ (i := 24) (N := some 79) (v := ?_) (a' := ?_) #[true, true, true, true, true, true, true, true, true, true, true, true, true, true, true, true, true, true, true, true, true, true, true, true, true] rfl rfl (by kernel_rfl) (fun _ _ _ h => h) (Or.inl ⟨by rfl, ?_⟩) ?_ ?_
              rotate_left
              · intro w'
                go_simp
                with_reducible rfl
              rotate_left
              · simp only [Act.put, List.setIfInBounds_toArray, List.set_cons_zero, List.set_cons_succ, Go.Proofs.YtogcjflneedcfaaDoorW.PrintLast.i64_w, Go.Proofs.YtogcjflneedcfaaDoorW.PrintLast.i32_w]
                rfl
              refine Go.Proofs.YtogcjflneedcfaaDoorW.PrintLast.done_ (by kernel_rfl) ?_
              have HGO := Lib.hid hHeld.1
              clear hHeld c1 c2 c3 c4 c5 c6 b0 b1 b2 b3 b4
              go_wp2_with fail
              go_roundw
              case rel => exact ⟨k + 1, by go_num, by omega, HTN.out.below HGO.out.b, HFL.out.trans (Fr.of_below HGO.out.b), (HGO.out.b.block _ (Array.getElem?_eq_some_iff.1 HBL.out).1).trans HBL.out, HGO.out.gl⟩
              case measure => simp [intOf]; omega
    · have t4 : decide (k < T.length) = false := decide_eq_false hlt
      have t6 : ¬ ((k : Int) < T.length) := by omega
      obtain rfl : k = T.length := by omega
      go_wp2_with fail
      go_ret2
      have h9 := HTL.out
      rw [List.take_length, List.drop_length, List.append_nil] at h9
      exact ⟨rfl, ⟨_, ps, h9, HF.out⟩, HFL.out, HGR.out⟩
end Lk
end Go.Proofs.YtogcjflneedcfaaDoor

namespace Go.Proofs.YtogcjflneedcfaaDoor
open Go.RowKit Md Go.Shelf Go.Proofs.YtogcjflneedcfaaDoorW.PrintWords
set_option linter.unusedVariables false
set_option linter.unusedSimpArgs false
namespace Lk

theorem info_ptr : (Tryd.prog.info? 66).map (fun i => (i.zero, i.size, i.bytes)) = some (some (.pointer none), 1, 8) := by kernel_rfl
theorem modify_last (T : List Rq) (r : Rq) (f : Rq → Rq) : (T ++ [r]).modify T.length f = T ++ [f r] := by
  apply List.ext_getElem?
  intro j
  rw [List.getElem?_modify]
  by_cases hj : T.length = j
  · subst hj
    simp
  · simp only [hj, if_false]
    by_cases h2 : j < T.length
    · rw [List.getElem?_append_left h2, List.getElem?_append_left h2]
      simp
    · rw [List.getElem?_append_right (by omega), List.getElem?_append_right (by omega)]
      cases hd : j - T.length with
      | zero => omega
      | succ n => simp
set_option maxHeartbeats 2000000 in
set_option maxRecDepth 100000 in
theorem ask_new (F : Nat → Prop) (D : Nat) (T : List Rq) (most tx : Int) (ob : Ob) (m : Int) (sh : Bool) (w : World) (gl : Gl w) (ht : Tab F w D most T) (hT : T.length ≤ 2000) (hok : ¬ tx < 1 ∧ pl ob.s ob.t ob.l ob.u ob.e = true ∧ ¬ m = 0 ∧ rt m = true ∧ waitsB T tx = false) (h6 : hasB T tx ob m = false) (h7 : ¬ most ≤ T.length) (hm7 : most ≤ 2000) : Calls Tryd.prog 21 #[.pointer (some ⟨D, 0, none⟩), .int .i64 tx, .agg #[.int .i64 ob.s, .string ob.t, .string ob.l, .string ob.u, .bool ob.e], .int .i64 m, .bool sh] w fun e w' => e = .returned (.tuple #[.bool (mayB (T ++ [⟨tx, ob, m, false, sh⟩]) T.length), .int .i64 0]) ∧ Tab (fun b => F b ∨ w.heap.size ≤ b) w' D most (T ++ [⟨tx, ob, m, mayB (T ++ [⟨tx, ob, m, false, sh⟩]) T.length, sh⟩]) ∧ Fr F w w' ∧ Gl w' := by
  obtain ⟨v, ps, ht, hF⟩ := ht
  obtain ⟨a, c, rfl⟩ := own_slice ht.row
  have hs0 : St w (w.alloc (.cells #[.int .i64 ob.s, .string ob.t, .string ob.l, .string ob.u, .bool ob.e] 30)) := (St.refl gl).alloc _
  have hbx := new_at w (.cells #[.int .i64 ob.s, .string ob.t, .string ob.l, .string ob.u, .bool ob.e] 30)
  have ht0 := ht.below hs0.b
  have HT := Lib.hid ht
  have HF := Lib.hid hF
  have HS0 := Lib.hid hs0
  have HT0 := Lib.hid ht0
  have HBX := Lib.hid hbx
  have b0 : (w.alloc (.cells #[.int .i64 ob.s, .string ob.t, .string ob.l, .string ob.u, .bool ob.e] 30)).cell? ⟨w.heap.size, 0, none⟩ = some (.int .i64 ob.s) := (Md.blk_cell hbx 0).trans rfl
  have b1 : (w.alloc (.cells #[.int .i64 ob.s, .string ob.t, .string ob.l, .string ob.u, .bool ob.e] 30)).cell? ⟨w.heap.size, 1, none⟩ = some (.string ob.t) := (Md.blk_cell hbx 1).trans rfl
  have b2 : (w.alloc (.cells #[.int .i64 ob.s, .string ob.t, .string ob.l, .string ob.u, .bool ob.e] 30)).cell? ⟨w.heap.size, 2, none⟩ = some (.string ob.l) := (Md.blk_cell hbx 2).trans rfl
  have b3 : (w.alloc (.cells #[.int .i64 ob.s, .string ob.t, .string ob.l, .string ob.u, .bool ob.e] 30)).cell? ⟨w.heap.size, 3, none⟩ = some (.string ob.u) := (Md.blk_cell hbx 3).trans rfl
  have b4 : (w.alloc (.cells #[.int .i64 ob.s, .string ob.t, .string ob.l, .string ob.u, .bool ob.e] 30)).cell? ⟨w.heap.size, 4, none⟩ = some (.bool ob.e) := (Md.blk_cell hbx 4).trans rfl
  clear ht hF hs0 ht0 hbx
  obtain ⟨h1, h2, h3, h4, h5⟩ := hok
  have t1 : decide (tx < 1) = false := decide_eq_false h1
  have t3 : (m == 0) = false := by simpa using h3
  have t3' : decide (m = 0) = false := decide_eq_false h3
  go_enter Tryd.func21, Tryd.ntmps21
  go_wp2_with fail
  refine (place_b ob _ h2 _ HS0.out.gl).mono ?_
  rintro e w1 ⟨rfl, hb1⟩
  have HB1 := Lib.hid (HS0.out.to hb1)
  have HBX1 := Lib.hid ((hb1.b.block _ (Array.getElem?_eq_some_iff.1 HBX.out).1).trans HBX.out)
  clear hb1 b0 b1 b2 b3 b4
  go_wp2_with fail
  refine (right_b m _ h4 _).mono ?_
  rintro e w2 ⟨rfl, rfl⟩
  go_wp2_with fail
  refine (waits_b _ D _ ps T most tx h5 _ HB1.out.gl (HT.out.below HB1.out.b)).mono ?_
  rintro e w2 ⟨rfl, hb2⟩
  have HB2 := Lib.hid (HB1.out.to hb2)
  have HBX2 := Lib.hid ((hb2.b.block _ (Array.getElem?_eq_some_iff.1 HBX1.out).1).trans HBX1.out)
  clear hb2
  have b0 : w2.cell? ⟨w.heap.size, 0, none⟩ = some (.int .i64 ob.s) := (Md.blk_cell HBX2.out 0).trans rfl
  have b1 : w2.cell? ⟨w.heap.size, 1, none⟩ = some (.string ob.t) := (Md.blk_cell HBX2.out 1).trans rfl
  have b2 : w2.cell? ⟨w.heap.size, 2, none⟩ = some (.string ob.l) := (Md.blk_cell HBX2.out 2).trans rfl
  have b3 : w2.cell? ⟨w.heap.size, 3, none⟩ = some (.string ob.u) := (Md.blk_cell HBX2.out 3).trans rfl
  have b4 : w2.cell? ⟨w.heap.size, 4, none⟩ = some (.bool ob.e) := (Md.blk_cell HBX2.out 4).trans rfl
  go_wp2_with fail
  refine (has_b _ D _ ps T most tx ob m h6 _ HB2.out.gl (HT.out.below HB2.out.b)).mono ?_
  rintro e w3 ⟨rfl, hb3⟩
  have HB3 := Lib.hid (HB2.out.to hb3)
  have HBX3 := Lib.hid ((hb3.b.block _ (Array.getElem?_eq_some_iff.1 HBX2.out).1).trans HBX2.out)
  clear hb3 b0 b1 b2 b3 b4
  have HT3 := Lib.hid (HT.out.below HB3.out.b)
  have x1 : w3.cell? ⟨D, 1, none⟩ = some (.slice a T.length c) := (Md.blk_cell HT3.out.d 1).trans rfl
  have x0 : w3.cell? ⟨D, 0, none⟩ = some (.int .i64 most) := (Md.blk_cell HT3.out.d 0).trans rfl
  have t7 : decide (most ≤ (T.length : Int)) = false := decide_eq_false (by omega)
  have HG3 := Lib.hid HB3.out
  clear HB1 HB2 HB3 HBX1 HBX2 HS0 HT0 HBX h1 h2 h3 h4 h5 h6 t1 t3 t3'
  go_wp2_with fail
  go_quiet (fail)
  clear x0 x1
  have HG4 := Lib.hid (HG3.out.drewN nq)
  have HT4 := Lib.hid (HT3.out.below (below_drewN (Below.refl _ _) nq))
  have HBX4 := Lib.hid (show (w3.drewN nq).heap[w.heap.size]? = _ from HBX3.out)
  generalize w3.drewN nq = w4 at *
  clear HG3 HT3 HBX3
  have b0 : w4.cell? ⟨w.heap.size, 0, none⟩ = some (.int .i64 ob.s) := (Md.blk_cell HBX4.out 0).trans rfl
  have b1 : w4.cell? ⟨w.heap.size, 1, none⟩ = some (.string ob.t) := (Md.blk_cell HBX4.out 1).trans rfl
  have b2 : w4.cell? ⟨w.heap.size, 2, none⟩ = some (.string ob.l) := (Md.blk_cell HBX4.out 2).trans rfl
  have b3 : w4.cell? ⟨w.heap.size, 3, none⟩ = some (.string ob.u) := (Md.blk_cell HBX4.out 3).trans rfl
  have b4 : w4.cell? ⟨w.heap.size, 4, none⟩ = some (.bool ob.e) := (Md.blk_cell HBX4.out 4).trans rfl
  have hwb : Below w4.heap.size w4 (w4.alloc (.cells #[.int .i64 tx, .int .i64 ob.s, .string ob.t, .string ob.l, .string ob.u, .bool ob.e, .int .i64 m, .bool false, .bool sh] 33)) := (Below.refl _ _).alloc (Nat.le_refl _) _
  have HT5 := Lib.hid (HT4.out.below hwb)
  have HP5 := Lib.hid (show IsRq (w4.alloc (.cells #[.int .i64 tx, .int .i64 ob.s, .string ob.t, .string ob.l, .string ob.u, .bool ob.e, .int .i64 m, .bool false, .bool sh] 33)) w4.heap.size ⟨tx, ob, m, false, sh⟩ from new_at w4 _)
  have d1 : (w4.alloc (.cells #[.int .i64 tx, .int .i64 ob.s, .string ob.t, .string ob.l, .string ob.u, .bool ob.e, .int .i64 m, .bool false, .bool sh] 33)).cell? ⟨D, 1, none⟩ = some (.slice a T.length c) := (Md.blk_cell HT5.out.d 1).trans rfl
  have HNF := Lib.hid (show ¬ Foot D (.slice a T.length c) ps w4.heap.size from fun q => by have := HT4.out.foot q; omega)
  have HP2 := Lib.hid (show 2 ≤ w4.heap.size from HG4.out.gl.size)
  have HB5 := Lib.hid (show Below w.heap.size w (w4.alloc (.cells #[.int .i64 tx, .int .i64 ob.s, .string ob.t, .string ob.l, .string ob.u, .bool ob.e, .int .i64 m, .bool false, .bool sh] 33)) from HG4.out.b.trans (hwb.mono HG4.out.b.size))
  have HZ5 := Lib.hid (show (w4.alloc (.cells #[.int .i64 tx, .int .i64 ob.s, .string ob.t, .string ob.l, .string ob.u, .bool ob.e, .int .i64 m, .bool false, .bool sh] 33)).heap.size = w4.heap.size + 1 by simp)
  clear hwb
  go_wp2_with (at_builtin; refine print_append_cells (w0 := w4.alloc (.cells #[.int .i64 tx, .int .i64 ob.s, .string ob.t, .string ob.l, .string ob.u, .bool ob.e, .int .i64 m, .bool false, .bool sh] 33)) (W := w4.alloc (.cells #[.int .i64 tx, .int .i64 ob.s, .string ob.t, .string ob.l, .string ob.u, .bool ob.e, .int .i64 m, .bool false, .bool sh] 33)) 0 rfl _ _ 63 66 (.pointer none) 1 8 rfl Tryd.underlying63 info_ptr rfl (by decide) (by decide) (.slice a T.length c) T.length (ps.map ptr) [ptr w4.heap.size] rfl (by rw [HZ5.out]; rfl) rfl (by intro u hu; rw [List.mem_singleton.1 hu]; rfl) HT5.out.row (Below.refl _ _) (Nat.zero_le _) (by omega) ?_)
  intro v6 w6 how6 _ hg6 hat6
  have hadd := HT5.out.add HP5.out HNF.out HP2.out how6 hg6 (by rw [HZ5.out]; exact hat6)
  obtain ⟨va6, vc6, rfl⟩ := own_slice how6
  obtain ⟨ha1, ha2, ha3⟩ := hadd
  have hD6 : w6.heap[D]? = some (.cells #[.int .i64 most, .slice a T.length c] 65 (0, 0)) := by
    refine (hg6.block D (Array.getElem?_eq_some_iff.1 HT5.out.d).1 fun e => ?_).trans HT5.out.d
    obtain ⟨cur, h2⟩ := own_at HT5.out.row e.symm
    exact kind_ne h2 HT5.out.d (by decide) rfl
  have y1 : w6.cell? ⟨D, 1, none⟩ = some (.slice a T.length c) := (Md.blk_cell hD6 1).trans rfl
  have yf : w6.frozen? ⟨D, 1, none⟩ = false := by simp [World.frozen?, hD6]
  have HA1 := Lib.hid ha1
  have HA2 := Lib.hid ha2
  have HA3 := Lib.hid ha3
  clear how6 hg6 hat6 ha1 ha2 ha3 hD6 b0 b1 b2 b3 b4 d1
  go_wp2_with fail
  have hlenT : ps.length = T.length := HT.out.len
  have HPL := Lib.hid (show (ps ++ [w4.heap.size])[T.length]? = some w4.heap.size by rw [List.getElem?_append_right (by omega), hlenT]; simp)
  have HF7 := Lib.hid (show Fr (Foot D (.slice a T.length c) ps) w (w6.setCell ⟨D, 1, none⟩ (.slice va6 (T.length + 1) vc6)) from (Fr.of_below (HB5.out)).trans (HA2.out.mono fun b _ hq => hq.elim (fun e => .inr (.inr e)) (fun e => .inl e)))
  have HG7 := Lib.hid (HF7.out.gl gl (fun b hb => HT.out.lo b hb))
  clear hlenT y1 yf
  refine (may_any D _ _ _ most T.length w4.heap.size _ HG7.out HA1.out HPL.out).mono ?_
  rintro e w8 ⟨rfl, hb8⟩
  have HB8 := Lib.hid hb8
  have HA8 := Lib.hid (HA1.out.below hb8.b)
  have hir8 := HA8.out.rq T.length w4.heap.size ⟨tx, ob, m, false, sh⟩ HPL.out (by simp)
  have y7 := hir8.cells.2.2.2.2.2.2.2.1
  have yf : w8.frozen? ⟨w4.heap.size, 7, none⟩ = false := by simp [World.frozen?, show w8.heap[w4.heap.size]? = _ from hir8]
  generalize hmy : mayB (T ++ [⟨tx, ob, m, false, sh⟩]) T.length = my at *
  have HMY := Lib.hid hmy
  clear hmy
  have hput := HA8.out.put HPL.out 7 (.bool my) (fun _ => ⟨tx, ob, m, my, sh⟩) (fun r hr => by simp at hr; subst hr; rfl)
  rw [modify_last] at hput
  have HPT := Lib.hid hput
  have y9 : (w8.setCell ⟨w4.heap.size, 7, none⟩ (.bool my)).cell? ⟨w4.heap.size, 7, none⟩ = some (.bool my) := (HPT.out.1.rq T.length w4.heap.size ⟨tx, ob, m, my, sh⟩ HPL.out (by simp)).cells.2.2.2.2.2.2.2.1
  clear hput hir8 hb8
  go_wp2_with fail
  go_ret2
  rw [HMY.out]
  have h9 : Fr (fun b => Foot D (.slice a T.length c) ps b ∨ w.heap.size ≤ b) w (w8.setCell ⟨w4.heap.size, 7, none⟩ (.bool my)) := ((HF7.out.trans (Fr.of_below HB8.out.b)).mono fun b _ hb => .inl hb).trans (HPT.out.2.mono fun b _ hb => .inr (by rw [hb]; exact HG4.out.b.size))
  refine ⟨rfl, ⟨_, _, HPT.out.1, fun b hb => ?_⟩, h9.mono (fun b hlt hb => hb.elim (fun q => HF.out b q) (fun q => by omega)), h9.gl gl (fun b hb => hb.elim (fun q => HT.out.lo b q) (fun q => Nat.le_trans gl.size q))⟩
  rcases HA3.out b hb with q | q | q
  · exact .inl (HF.out b q)
  · exact .inr (by rw [q]; exact HG4.out.b.size)
  · exact .inr (Nat.le_trans HB5.out.size q)
end Lk
end Go.Proofs.YtogcjflneedcfaaDoor

namespace Go.Proofs.YtogcjflneedcfaaDoor
open Go.RowKit Md Go.Shelf Go.Proofs.YtogcjflneedcfaaDoorW.PrintWords
set_option linter.unusedVariables false
set_option linter.unusedSimpArgs false
namespace Lk

deriving instance DecidableEq for Ob
deriving instance DecidableEq for Rq
theorem ask_any (F : Nat → Prop) (D : Nat) (T : List Rq) (most tx : Int) (ob : Ob) (m : Int) (sh : Bool) (w : World) (gl : Gl w) (ht : Tab F w D most T) (hT : T.length ≤ 2000) (hm : most ≤ 2000) :
    Calls Tryd.prog 21 #[.pointer (some ⟨D, 0, none⟩), .int .i64 tx, .agg #[.int .i64 ob.s, .string ob.t, .string ob.l, .string ob.u, .bool ob.e], .int .i64 m, .bool sh] w fun e w' => e = .returned (.tuple #[.bool (askT most T tx ob m sh).2.1, .int .i64 (askT most T tx ob m sh).2.2]) ∧ Tab (fun b => F b ∨ w.heap.size ≤ b) w' D most (askT most T tx ob m sh).1 ∧ Fr F w w' ∧ Gl w' := by
  unfold askT
  split
  · rename_i h
    refine (ask_form F D T most tx ob m sh w gl ht hT h).mono ?_
    rintro e w' ⟨rfl, hs⟩
    exact ⟨rfl, (ht.below hs.b).mono fun b _ hb => .inl hb, Fr.of_below hs.b, hs.gl⟩
  · rename_i h
    have hok : ¬ tx < 1 ∧ pl ob.s ob.t ob.l ob.u ob.e = true ∧ ¬ m = 0 ∧ rt m = true ∧ waitsB T tx = false := by
      refine ⟨fun q => h (.inl q), ?_, fun q => h (.inr (.inr (.inl q))), ?_, ?_⟩
      · cases q : pl ob.s ob.t ob.l ob.u ob.e
        · exact absurd (.inr (.inl q)) h
        · rfl
      · cases q : rt m
        · exact absurd (.inr (.inr (.inr (.inl q)))) h
        · rfl
      · cases q : waitsB T tx
        · rfl
        · exact absurd (.inr (.inr (.inr (.inr q)))) h
    split
    · rename_i h6
      refine (ask_has F D T most tx ob m sh w gl ht hT hok h6).mono ?_
      rintro e w' ⟨rfl, h1, h2, h3⟩
      exact ⟨rfl, h1.mono fun b _ hb => .inl hb, h2, h3⟩
    · rename_i h6
      have h6' : hasB T tx ob m = false := by
        cases q : hasB T tx ob m
        · rfl
        · exact absurd q h6
      split
      · rename_i h7
        refine (ask_full F D T most tx ob m sh w gl ht hT hok h6' h7).mono ?_
        rintro e w' ⟨rfl, hs⟩
        exact ⟨rfl, (ht.below hs.b).mono fun b _ hb => .inl hb, Fr.of_below hs.b, hs.gl⟩
      · rename_i h7
        exact ask_new F D T most tx ob m sh w gl ht hT hok h6' h7 hm
theorem ask_at (F : Nat → Prop) (D : Nat) (T : List Rq) (most tx : Int) (ob : Ob) (m : Int) (sh : Bool) (w : World) (T' : List Rq) (b : Bool) (n : Int) (he : askT most T tx ob m sh = (T', b, n)) (gl : Gl w) (ht : Tab F w D most T) (hT : T.length ≤ 2000) (hm : most ≤ 2000) :
    Calls Tryd.prog 21 #[.pointer (some ⟨D, 0, none⟩), .int .i64 tx, .agg #[.int .i64 ob.s, .string ob.t, .string ob.l, .string ob.u, .bool ob.e], .int .i64 m, .bool sh] w fun e w' => e = .returned (.tuple #[.bool b, .int .i64 n]) ∧ Tab (fun b => F b ∨ w.heap.size ≤ b) w' D most T' ∧ Fr F w w' ∧ Gl w' := by
  have h := ask_any F D T most tx ob m sh w gl ht hT hm
  rw [he] at h
  exact h
theorem edges_nil (w : World) : Calls Tryd.prog 24 #[.pointer none] w fun e w' => e = .returned (.slice none 0 0) ∧ w = w' := by
  go_enter Tryd.func24, Tryd.ntmps24
  go_wp2
  go_ret
  exact ⟨rfl, rfl⟩
theorem table_any (t : ByteArray) (w : World) (gl : Gl w) : Calls Tryd.prog 34 #[.string t] w fun e w' => e = .returned (.agg #[.int .i64 1, .string t, .string ⟨#[]⟩, .string ⟨#[]⟩, .bool false]) ∧ St w w' := by
  have hs := (St.refl gl).alloc (.cells #[.int .i64 1, .string t, .string ⟨#[]⟩, .string ⟨#[]⟩, .bool false] 30)
  have hb := new_at w (.cells #[.int .i64 1, .string t, .string ⟨#[]⟩, .string ⟨#[]⟩, .bool false] 30)
  have x0 := (Md.blk_cell hb 0).trans rfl
  have x1 := (Md.blk_cell hb 1).trans rfl
  have x2 := (Md.blk_cell hb 2).trans rfl
  have x3 := (Md.blk_cell hb 3).trans rfl
  have x4 := (Md.blk_cell hb 4).trans rfl
  clear hb
  go_enter Tryd.func34, Tryd.ntmps34
  go_wp2
  refine bodyPost_ret (v := .agg #[.int .i64 1, .string t, .string ⟨#[]⟩, .string ⟨#[]⟩, .bool false]) ?_ rfl ⟨rfl, hs⟩
  simp [results, Tryd.f34, go_sem, *]
theorem waits_tab (F : Nat → Prop) (D : Nat) (T : List Rq) (most tx : Int) (w : World) (gl : Gl w) (ht : Tab F w D most T) : Calls Tryd.prog 20 #[.pointer (some ⟨D, 0, none⟩), .int .i64 tx] w fun e w' => e = .returned (.bool (waitsB T tx)) ∧ St w w' := by
  obtain ⟨v, ps, h, _⟩ := ht
  exact waits_any D v ps T most tx w gl h
theorem has_tab (F : Nat → Prop) (D : Nat) (T : List Rq) (most tx : Int) (ob : Ob) (m : Int) (w : World) (gl : Gl w) (ht : Tab F w D most T) : Calls Tryd.prog 17 #[.pointer (some ⟨D, 0, none⟩), .int .i64 tx, .agg #[.int .i64 ob.s, .string ob.t, .string ob.l, .string ob.u, .bool ob.e], .int .i64 m] w fun e w' => e = .returned (.bool (hasB T tx ob m)) ∧ St w w' := by
  obtain ⟨v, ps, h, _⟩ := ht
  exact has_any D v ps T most tx ob m w gl h
def tob : Ob := ⟨1, ⟨#[116]⟩, ⟨#[]⟩, ⟨#[]⟩, false⟩
def q1 : Rq := ⟨1, tob, 3, true, false⟩
def q2 : Rq := ⟨2, tob, 2, false, false⟩
def q2' : Rq := ⟨2, tob, 2, true, false⟩
def q3 : Rq := ⟨3, tob, 1, true, false⟩
def q4 : Rq := ⟨4, tob, 3, false, false⟩
set_option maxHeartbeats 2000000 in
set_option maxRecDepth 100000 in
theorem alive_any (w : World) (gl : Gl w) : Calls Tryd.prog 12 #[] w fun e w' => e = .returned (.bool true) ∧ St w w' := by
  obtain ⟨FB, hFB⟩ : ∃ FB : Nat → Prop, FB = fun b => w.heap.size ≤ b := ⟨_, rfl⟩
  go_enter Tryd.func12, Tryd.ntmps12
  go_wp2_with fail
  refine (new_yes 9 w gl (by decide) (by decide)).mono ?_
  rintro e w0 ⟨rfl, ht0, hs0⟩
  unfold ptr
  rw [← hFB] at ht0
  have HT0 := Lib.hid ht0
  have HG0 := Lib.hid hs0.gl
  have HF0 := Lib.hid (Fr.of_below (F := FB) hs0.b)
  clear ht0 hs0
  have HFB := Lib.hid hFB
  clear hFB
  go_wp2_with fail
  refine (table_any _ _ HG0.out).mono ?_
  rintro e w' ⟨rfl, hta⟩
  have HTA := Lib.hid hta
  clear hta
  go_wp2_with fail
  refine (ask_at FB _ [] 9 1 tob 3 false _ [q1] true 0 (by decide +kernel) HTA.out.gl (HT0.out.below HTA.out.b) (by decide) (by decide)).mono ?_
  rintro e w1 ⟨rfl, ht1, hf1, hg1⟩
  have HT1 := Lib.hid (ht1.mono (fun b _ hb => hb.elim id (fun h => by rw [HFB.out]; exact Nat.le_trans (Nat.le_trans HF0.out.size HTA.out.b.size) h)))
  have HG1 := Lib.hid hg1
  have HF1 := Lib.hid ((HF0.out.trans (Fr.of_below HTA.out.b)).trans hf1)
  clear ht1 hf1 hg1 HTA
  go_wp2_with fail
  refine (table_any _ _ HG1.out).mono ?_
  rintro e w' ⟨rfl, hta⟩
  have HTA := Lib.hid hta
  clear hta
  go_wp2_with fail
  refine (ask_at FB _ [q1] 9 2 tob 2 false _ [q1, q2] false 0 (by decide +kernel) HTA.out.gl (HT1.out.below HTA.out.b) (by decide) (by decide)).mono ?_
  rintro e w2 ⟨rfl, ht2, hf2, hg2⟩
  have HT2 := Lib.hid (ht2.mono (fun b _ hb => hb.elim id (fun h => by rw [HFB.out]; exact Nat.le_trans (Nat.le_trans HF1.out.size HTA.out.b.size) h)))
  have HG2 := Lib.hid hg2
  have HF2 := Lib.hid ((HF1.out.trans (Fr.of_below HTA.out.b)).trans hf2)
  clear ht2 hf2 hg2 HTA
  go_wp2_with fail
  refine (table_any _ _ HG2.out).mono ?_
  rintro e w' ⟨rfl, hta⟩
  have HTA := Lib.hid hta
  clear hta
  go_wp2_with fail
  refine (ask_at FB _ [q1, q2] 9 3 tob 1 false _ [q1, q2, q3] true 0 (by decide +kernel) HTA.out.gl (HT2.out.below HTA.out.b) (by decide) (by decide)).mono ?_
  rintro e w3 ⟨rfl, ht3, hf3, hg3⟩
  have HT3 := Lib.hid (ht3.mono (fun b _ hb => hb.elim id (fun h => by rw [HFB.out]; exact Nat.le_trans (Nat.le_trans HF2.out.size HTA.out.b.size) h)))
  have HG3 := Lib.hid hg3
  have HF3 := Lib.hid ((HF2.out.trans (Fr.of_below HTA.out.b)).trans hf3)
  clear ht3 hf3 hg3 HTA
  go_wp2_with fail
  refine (table_any _ _ HG3.out).mono ?_
  rintro e w' ⟨rfl, hta⟩
  have HTA := Lib.hid hta
  clear hta
  go_wp2_with fail
  refine (ask_at FB _ [q1, q2, q3] 9 4 tob 3 false _ [q1, q2, q3, q4] false 0 (by decide +kernel) HTA.out.gl (HT3.out.below HTA.out.b) (by decide) (by decide)).mono ?_
  rintro e w4 ⟨rfl, ht4, hf4, hg4⟩
  have HT4 := Lib.hid (ht4.mono (fun b _ hb => hb.elim id (fun h => by rw [HFB.out]; exact Nat.le_trans (Nat.le_trans HF3.out.size HTA.out.b.size) h)))
  have HG4 := Lib.hid hg4
  have HF4 := Lib.hid ((HF3.out.trans (Fr.of_below HTA.out.b)).trans hf4)
  clear ht4 hf4 hg4 HTA

  go_wp2_with fail
  have hen := end_any _ w.heap.size [q1, q2, q3, q4] 9 1 _ HG4.out HT4.out (by decide)
  rw [show endT [q1, q2, q3, q4] 1 = ([q2', q3, q4], [2]) by decide +kernel] at hen
  refine hen.mono ?_
  rintro e w5 ⟨wv, rfl, ht5, ho5, hf5, hg5⟩
  obtain ⟨wa, wc, rfl⟩ := own_slice ho5
  have hc5 : ∃ g, wa = some ⟨g, 0, none⟩ ∧ w5.cell? ⟨g, 0, none⟩ = some (.int .i64 2) := by
    rcases ho5.2 with ⟨_, q⟩ | ⟨g, cap, cur, q, q2, q3, q4, q5, q6, q7⟩
    · cases q
    · cases q
      refine ⟨g, rfl, (Md.blk_cell q3 0).trans ?_⟩
      have h2 : (cur.toList.take (1 * 1))[0]? = some (Value.int .i64 2) := by rw [show cur.toList.take (1 * 1) = _ from q7]; rfl
      rw [List.getElem?_take_of_lt (by omega)] at h2
      simpa using h2
  obtain ⟨g5, rfl, hc5⟩ := hc5
  have HT5 := Lib.hid ht5
  have HG5 := Lib.hid hg5
  have HF5 := Lib.hid (HF4.out.trans hf5)
  clear ht5 ho5 hf5 hg5 hen
  go_wp2_with fail
  have hwt := waits_tab _ w.heap.size [q2', q3, q4] 9 4 _ HG5.out HT5.out
  rw [show waitsB [q2', q3, q4] 4 = true by decide +kernel] at hwt
  refine hwt.mono ?_
  rintro e w6 ⟨rfl, hs6⟩
  have HS6 := Lib.hid hs6
  clear hs6 hwt
  go_wp2_with fail
  refine (table_any _ _ HS6.out.gl).mono ?_
  rintro e w7 ⟨rfl, hs7⟩
  have HS7 := Lib.hid (HS6.out.to hs7)
  clear hs7
  go_wp2_with fail
  have hhs := has_tab _ w.heap.size [q2', q3, q4] 9 2 tob 1 _ HS7.out.gl (HT5.out.below HS7.out.b)
  rw [show hasB [q2', q3, q4] 2 tob 1 = true by decide +kernel] at hhs
  refine hhs.mono ?_
  rintro e w8 ⟨rfl, hs8⟩
  have HS8 := Lib.hid (HS7.out.to hs8)
  clear hs8 hhs
  go_wp2_with fail
  go_ret
  refine ⟨rfl, ?_, gl⟩
  exact (HF5.out.trans (Fr.of_below HS8.out.b)).below (Nat.le_refl _) (fun i hi hf => by rw [HFB.out] at hf; omega)
set_option maxHeartbeats 2000000 in
set_option maxRecDepth 100000 in
theorem nil_walk (tx : Int) (ob : Ob) (w : World) (gl : Gl w) : Calls Tryd.prog 10 #[.int .i64 tx, .agg #[.int .i64 ob.s, .string ob.t, .string ob.l, .string ob.u, .bool ob.e]] w fun e w' => e = .returned (.bool true) ∧ Below w.heap.size w w' := by
  have HS0 := Lib.hid (show St w (w.alloc (.cells #[.int .i64 ob.s, .string ob.t, .string ob.l, .string ob.u, .bool ob.e] 30)) from (St.refl gl).alloc _)
  have hbx := new_at w (.cells #[.int .i64 ob.s, .string ob.t, .string ob.l, .string ob.u, .bool ob.e] 30)
  have b0 : (w.alloc (.cells #[.int .i64 ob.s, .string ob.t, .string ob.l, .string ob.u, .bool ob.e] 30)).cell? ⟨w.heap.size, 0, none⟩ = some (.int .i64 ob.s) := (Md.blk_cell hbx 0).trans rfl
  have b1 : (w.alloc (.cells #[.int .i64 ob.s, .string ob.t, .string ob.l, .string ob.u, .bool ob.e] 30)).cell? ⟨w.heap.size, 1, none⟩ = some (.string ob.t) := (Md.blk_cell hbx 1).trans rfl
  have b2 : (w.alloc (.cells #[.int .i64 ob.s, .string ob.t, .string ob.l, .string ob.u, .bool ob.e] 30)).cell? ⟨w.heap.size, 2, none⟩ = some (.string ob.l) := (Md.blk_cell hbx 2).trans rfl
  have b3 : (w.alloc (.cells #[.int .i64 ob.s, .string ob.t, .string ob.l, .string ob.u, .bool ob.e] 30)).cell? ⟨w.heap.size, 3, none⟩ = some (.string ob.u) := (Md.blk_cell hbx 3).trans rfl
  have b4 : (w.alloc (.cells #[.int .i64 ob.s, .string ob.t, .string ob.l, .string ob.u, .bool ob.e] 30)).cell? ⟨w.heap.size, 4, none⟩ = some (.bool ob.e) := (Md.blk_cell hbx 4).trans rfl
  have HBX := Lib.hid hbx
  clear hbx
  go_enter Tryd.func10, Tryd.ntmps10
  go_wp2_with fail
  refine (ask_nil tx ob 3 false _ HS0.out.gl).mono ?_
  rintro e w1 ⟨rfl, hs⟩
  have HS1 := Lib.hid (HS0.out.to hs)
  have HB1 := Lib.hid ((hs.b.block _ (Array.getElem?_eq_some_iff.1 HBX.out).1).trans HBX.out)
  clear hs b0 b1 b2 b3 b4
  go_wp2_with fail
  refine (alive_any _ HS1.out.gl).mono ?_
  rintro e w2 ⟨rfl, hs⟩
  have HS2 := Lib.hid (HS1.out.to hs)
  have HB2 := Lib.hid ((hs.b.block _ (Array.getElem?_eq_some_iff.1 HB1.out).1).trans HB1.out)
  clear hs
  go_wp2_with fail
  refine (end_nil tx _ HS2.out.gl).mono ?_
  rintro e w3 ⟨rfl, hs⟩
  have HS3 := Lib.hid (HS2.out.to hs)
  have HB3 := Lib.hid ((hs.b.block _ (Array.getElem?_eq_some_iff.1 HB2.out).1).trans HB2.out)
  clear hs
  go_wp2_with fail
  refine (endshort_nil tx _ HS3.out.gl).mono ?_
  rintro e w4 ⟨rfl, hs⟩
  have HS4 := Lib.hid (HS3.out.to hs)
  have HB4 := Lib.hid ((hs.b.block _ (Array.getElem?_eq_some_iff.1 HB3.out).1).trans HB3.out)
  clear hs
  go_wp2_with fail
  refine (waits_nil tx _ HS4.out.gl).mono ?_
  rintro e w5 ⟨rfl, hs⟩
  have HS5 := Lib.hid (HS4.out.to hs)
  have hb5 := (hs.b.block _ (Array.getElem?_eq_some_iff.1 HB4.out).1).trans HB4.out
  have b0 : w5.cell? ⟨w.heap.size, 0, none⟩ = some (.int .i64 ob.s) := (Md.blk_cell hb5 0).trans rfl
  have b1 : w5.cell? ⟨w.heap.size, 1, none⟩ = some (.string ob.t) := (Md.blk_cell hb5 1).trans rfl
  have b2 : w5.cell? ⟨w.heap.size, 2, none⟩ = some (.string ob.l) := (Md.blk_cell hb5 2).trans rfl
  have b3 : w5.cell? ⟨w.heap.size, 3, none⟩ = some (.string ob.u) := (Md.blk_cell hb5 3).trans rfl
  have b4 : w5.cell? ⟨w.heap.size, 4, none⟩ = some (.bool ob.e) := (Md.blk_cell hb5 4).trans rfl
  clear hs hb5
  go_wp2_with fail
  refine (has_nil tx ob 1 _ HS5.out.gl).mono ?_
  rintro e w6 ⟨rfl, hs⟩
  have HS6 := Lib.hid (HS5.out.to hs)
  clear hs b0 b1 b2 b3 b4
  go_wp2_with fail
  refine (list_nil _).mono ?_
  rintro e w7 ⟨rfl, rfl⟩
  go_wp2_with fail
  refine (edges_nil _).mono ?_
  rintro e w7 ⟨rfl, rfl⟩
  go_wp2_with fail
  go_ret
  exact ⟨rfl, HS6.out.b⟩
end Lk
end Go.Proofs.YtogcjflneedcfaaDoor

namespace Go.Proofs.YtogcjflneedcfaaDoor
open Go.RowKit Md
set_option linter.unusedVariables false
set_option linter.unusedSimpArgs false
namespace Lk

def key (r : Rq) : Rq := { r with s := false }
theorem clash_key (a b : Rq) : clash (key a) (key b) = clash a b := rfl
theorem anyB_congr {p q : Nat → Bool} {n : Nat} (h : ∀ i, i < n → p i = q i) : anyB p n = anyB q n := by
  induction n with
  | zero => rfl
  | succ n ih => rw [anyB_succ, anyB_succ, ih (fun i hi => h i (by omega)), h n (by omega)]
theorem anyB_true {q : Nat → Bool} {n : Nat} : anyB q n = true ↔ ∃ i, i < n ∧ q i = true := by
  unfold anyB
  rw [List.any_eq_true]
  exact ⟨fun ⟨x, h1, h2⟩ => ⟨x, List.mem_range.1 h1, h2⟩, fun ⟨x, h1, h2⟩ => ⟨x, List.mem_range.2 h1, h2⟩⟩
theorem anyB_false {q : Nat → Bool} {n : Nat} : anyB q n = false ↔ ∀ i, i < n → q i = false := by
  rw [← Bool.not_eq_true, anyB_true]
  constructor
  · intro h i hi
    cases hq : q i
    · rfl
    · exact absurd ⟨i, hi, hq⟩ h
  · rintro h ⟨i, hi, hq⟩
    rw [h i hi] at hq
    cases hq
theorem ownQ_key (T : List Rq) (i k : Nat) : ownQ (T.map key) i k = ownQ T i k := by
  unfold ownQ
  rw [List.getElem?_map, List.getElem?_map]
  cases T[k]? <;> cases T[i]? <;> rfl
theorem ownB_key (T : List Rq) (i : Nat) : ownB (T.map key) i = ownB T i := by
  unfold ownB
  rw [List.length_map]
  exact anyB_congr fun k _ => ownQ_key T i k
theorem blk_key (T : List Rq) (i k : Nat) : blk (T.map key) i k = blk T i k := by
  unfold blk
  rw [List.getElem?_map, List.getElem?_map, ownB_key]
  cases T[k]? <;> cases T[i]? <;> rfl
theorem mayB_key (T : List Rq) (i : Nat) : mayB (T.map key) i = mayB T i := by
  unfold mayB
  rw [List.length_map, anyB_congr fun k _ => blk_key T i k]
theorem readyQ_key (T : List Rq) (i : Nat) : readyQ (T.map key) i = readyQ T i := by
  unfold readyQ
  rw [List.getElem?_map, mayB_key]
  cases T[i]? <;> rfl
theorem readyQ_map (T : List Rq) (f : Rq → Rq) (hf : ∀ r, key (f r) = key r) (i : Nat) : readyQ (T.map f) i = readyQ T i := by
  rw [← readyQ_key (T.map f), List.map_map, show key ∘ f = key from funext hf, readyQ_key]
theorem shortF_key (tx : Int) (ob : Ob) (m : Int) (sh : Bool) (r : Rq) : key (shortF tx ob m sh r) = key r := by
  unfold shortF
  split <;> rfl
theorem blk_lt (T : List Rq) (i k : Nat) (h : blk T i k = true) : i < T.length ∧ k < T.length ∧ k ≠ i := by
  unfold blk at h
  cases h1 : T[k]? with
  | none => rw [h1] at h; cases h
  | some g =>
    cases h2 : T[i]? with
    | none => rw [h1, h2] at h; cases h
    | some r =>
      rw [h1, h2] at h
      refine ⟨(List.getElem?_eq_some_iff.1 h2).1, (List.getElem?_eq_some_iff.1 h1).1, fun e => ?_⟩
      simp [e] at h
theorem ownQ_app (T : List Rq) (r : Rq) (i k : Nat) (hi : i < T.length) (hk : k < T.length) : ownQ (T ++ [r]) i k = ownQ T i k := by
  unfold ownQ
  rw [List.getElem?_append_left hk, List.getElem?_append_left hi]
theorem ownB_app (T : List Rq) (r : Rq) (i : Nat) (hi : i < T.length) : ownB (T ++ [r]) i = ownB T i := by
  unfold ownB
  rw [List.length_append, List.length_singleton, anyB_succ, anyB_congr fun k hk => ownQ_app T r i k hi hk]
  have : ownQ (T ++ [r]) i T.length = false := by simp [ownQ, show ¬ T.length < i by omega]
  rw [this, Bool.or_false]
theorem blk_app (T : List Rq) (r : Rq) (i k : Nat) (hi : i < T.length) (hk : k < T.length) : blk (T ++ [r]) i k = blk T i k := by
  unfold blk
  rw [List.getElem?_append_left hk, List.getElem?_append_left hi, ownB_app T r i hi]
theorem may_app (T : List Rq) (r : Rq) (i : Nat) (hi : i < T.length) (h : mayB T i = false) : mayB (T ++ [r]) i = false := by
  unfold mayB at h ⊢
  rw [List.length_append, List.length_singleton, anyB_succ, anyB_congr fun k hk => blk_app T r i k hi hk]
  rw [Bool.not_eq_false'] at h ⊢
  rw [h, Bool.true_or]
theorem clash_refl (a : Rq) : clash a a = false := by simp [clash]
theorem clash_tx {a b : Rq} (h : clash a b = true) : a.tx ≠ b.tx := by
  unfold clash at h
  simp only [Bool.and_eq_true, bne_iff_ne] at h
  exact h.1.1
/-- of a request that may be granted: what is granted does not keep it from it -/
theorem may_clash {T : List Rq} {i k : Nat} {r g : Rq} (hm : mayB T i = true) (hr : T[i]? = some r) (hk : T[k]? = some g) (hg : g.g = true) : clash g r = false := by
  by_cases e : k = i
  · subst e
    rw [hr] at hk
    cases hk
    exact clash_refl _
  · have h1 : blk T i k = false := by
      unfold mayB at hm
      rw [Bool.not_eq_true'] at hm
      exact anyB_false.1 hm k (List.getElem?_eq_some_iff.1 hk).1
    unfold blk at h1
    rw [hk, hr] at h1
    simpa [e, hg] using h1
theorem may_own {T : List Rq} {i k : Nat} {r g : Rq} (hm : mayB T i = true) (hr : T[i]? = some r) (hk : T[k]? = some g) (hg : g.g = false) (hki : k < i) (hc : clash g r = true ∨ clash r g = true) : ownB T i = true := by
  have h1 : blk T i k = false := by
    unfold mayB at hm
    rw [Bool.not_eq_true'] at hm
    exact anyB_false.1 hm k (List.getElem?_eq_some_iff.1 hk).1
  unfold blk at h1
  rw [hk, hr] at h1
  have e : ¬ k = i := by omega
  have e2 : ¬ i < k := by omega
  simp only [e, if_false, hg, Bool.false_eq_true, e2, decide_false, Bool.false_or, Bool.not_eq_false'] at h1
  rcases hc with h | h <;> simpa [h] using h1
theorem own_ex {T : List Rq} {i : Nat} {r : Rq} (h : ownB T i = true) (hr : T[i]? = some r) : ∃ k g, k < i ∧ T[k]? = some g ∧ g.g = true ∧ g.tx = r.tx ∧ g.o = r.o := by
  obtain ⟨k, hk, hq⟩ := anyB_true.1 h
  unfold ownQ at hq
  rw [hr] at hq
  cases hg : T[k]? with
  | none => rw [hg] at hq; simp at hq
  | some g =>
    rw [hg] at hq
    simp only [Bool.and_eq_true, decide_eq_true_eq, beq_iff_eq] at hq
    exact ⟨k, g, hq.1, hg, hq.2.1.1, hq.2.1.2, (obEq_iff _ _).1 hq.2.2⟩
def wfR (r : Rq) : Prop := 1 ≤ r.tx ∧ pl r.o.s r.o.t r.o.l r.o.u r.o.e = true ∧ rt r.m = true ∧ r.m ≠ 0
/-- what any list of requests has, those that may be granted aside -/
structure Core (T : List Rq) : Prop where
  wf : ∀ r ∈ T, wfR r
  odds : ∀ a ∈ T, ∀ b ∈ T, a.g = true → b.g = true → clash a b = true → clash b a = false
  one : T.Pairwise fun a b => a.g = false → b.g = false → a.tx ≠ b.tx
theorem Core.nil : Core [] := ⟨fun r h => by simp at h, fun r h => by simp at h, List.Pairwise.nil⟩
theorem Core.sub {T T' : List Rq} (h : Core T) (hs : T'.Sublist T) : Core T' := ⟨fun r hr => h.wf r (hs.subset hr), fun a ha b hb => h.odds a (hs.subset ha) b (hs.subset hb), h.one.sublist hs⟩
theorem Core.add {T : List Rq} (h : Core T) {r : Rq} (hw : wfR r) (hg : r.g = false) (hn : waitsB T r.tx = false) : Core (T ++ [r]) := by
  refine ⟨fun a ha => ?_, fun a ha b hb ga gb hc => ?_, ?_⟩
  · rcases List.mem_append.1 ha with ha | ha
    · exact h.wf a ha
    · rw [List.mem_singleton.1 ha]; exact hw
  · rcases List.mem_append.1 ha with ha | ha
    · rcases List.mem_append.1 hb with hb | hb
      · exact h.odds a ha b hb ga gb hc
      · rw [List.mem_singleton.1 hb, hg] at gb; cases gb
    · rw [List.mem_singleton.1 ha, hg] at ga; cases ga
  · rw [List.pairwise_append]
    refine ⟨h.one, List.pairwise_singleton _ _, fun a ha b hb ga _ e => ?_⟩
    rw [List.mem_singleton.1 hb] at e
    obtain ⟨i, hi⟩ := List.mem_iff_getElem?.1 ha
    have := anyB_false.1 hn i (List.getElem?_eq_some_iff.1 hi).1
    simp only [hi] at this
    simp [e, ga] at this
theorem Core.map {T : List Rq} (h : Core T) {f : Rq → Rq} (hf : ∀ r, key (f r) = key r) : Core (T.map f) := by
  have e1 : ∀ r, (f r).tx = r.tx := fun r => show (key (f r)).tx = (key r).tx from congrArg Rq.tx (hf r)
  have e2 : ∀ r, (f r).o = r.o := fun r => show (key (f r)).o = (key r).o from congrArg Rq.o (hf r)
  have e3 : ∀ r, (f r).m = r.m := fun r => show (key (f r)).m = (key r).m from congrArg Rq.m (hf r)
  have e4 : ∀ r, (f r).g = r.g := fun r => show (key (f r)).g = (key r).g from congrArg Rq.g (hf r)
  have ec : ∀ a b, clash (f a) (f b) = clash a b := fun a b => by unfold clash; rw [e1, e1, e2, e2, e3, e3]
  refine ⟨fun r hr => ?_, fun a ha b hb ga gb hc => ?_, ?_⟩
  · obtain ⟨x, hx, rfl⟩ := List.mem_map.1 hr
    have := h.wf x hx
    unfold wfR at this ⊢
    rw [e1, e2, e3]
    exact this
  · obtain ⟨x, hx, rfl⟩ := List.mem_map.1 ha
    obtain ⟨y, hy, rfl⟩ := List.mem_map.1 hb
    rw [ec] at hc ⊢
    rw [e4] at ga gb
    exact h.odds x hx y hy ga gb hc
  · rw [List.pairwise_map]
    exact h.one.imp fun {a b} hab ga gb => by rw [e4] at ga gb; rw [e1, e1]; exact hab ga gb
theorem grant_at (T : List Rq) (i j : Nat) : (grant T i)[j]? = if i = j then (T[j]?).map (fun r => { r with g := true }) else T[j]? := by
  unfold grant
  rw [List.getElem?_modify]
  by_cases h : i = j
  · simp [h]
  · simp [h]
theorem grant_mem {T : List Rq} {i : Nat} {r : Rq} (hr : T[i]? = some r) {a : Rq} (ha : a ∈ grant T i) : a ∈ T ∨ a = { r with g := true } := by
  obtain ⟨j, hj⟩ := List.mem_iff_getElem?.1 ha
  rw [grant_at] at hj
  by_cases e : i = j
  · rw [if_pos e, ← e, hr] at hj
    exact .inr (Option.some.inj hj).symm
  · rw [if_neg e] at hj
    exact .inl (List.mem_of_getElem? hj)
theorem ready_ex {T : List Rq} {i : Nat} (h : readyQ T i = true) : ∃ r, T[i]? = some r ∧ r.g = false ∧ mayB T i = true := by
  unfold readyQ at h
  cases hr : T[i]? with
  | none => rw [hr] at h; cases h
  | some r =>
    rw [hr] at h
    simp at h
    exact ⟨r, rfl, h.1, h.2⟩
theorem Core.grant {T : List Rq} (h : Core T) {i : Nat} (hq : readyQ T i = true) : Core (Lk.grant T i) := by
  obtain ⟨r, hr, hg, hm⟩ := ready_ex hq
  have hmem := List.mem_of_getElem? hr
  refine ⟨fun a ha => ?_, fun a ha b hb ga gb hc => ?_, ?_⟩
  · rcases grant_mem hr ha with ha | rfl
    · exact h.wf a ha
    · exact h.wf r hmem
  · rcases grant_mem hr ha with ha | rfl
    · rcases grant_mem hr hb with hb | rfl
      · exact h.odds a ha b hb ga gb hc
      · obtain ⟨k, hk⟩ := List.mem_iff_getElem?.1 ha
        have : clash a r = false := may_clash hm hr hk ga
        rw [show clash a { r with g := true } = clash a r from rfl, this] at hc
        cases hc
    · rcases grant_mem hr hb with hb | rfl
      · obtain ⟨k, hk⟩ := List.mem_iff_getElem?.1 hb
        exact (show clash b r = false from may_clash hm hr hk gb)
      · exact clash_refl _
  · rw [List.pairwise_iff_getElem]
    intro a b ha hb hab ga gb
    have h1 := grant_at T i a
    have h2 := grant_at T i b
    rw [List.getElem?_eq_getElem ha] at h1
    rw [List.getElem?_eq_getElem hb] at h2
    have hla : a < T.length := by simpa [Lk.grant] using ha
    have hlb : b < T.length := by simpa [Lk.grant] using hb
    rw [List.getElem?_eq_getElem hla] at h1
    rw [List.getElem?_eq_getElem hlb] at h2
    by_cases ea : i = a
    · rw [if_pos ea] at h1
      rw [Option.some.inj h1] at ga
      cases ga
    · by_cases eb : i = b
      · rw [if_pos eb] at h2
        rw [Option.some.inj h2] at gb
        cases gb
      · rw [if_neg ea] at h1
        rw [if_neg eb] at h2
        rw [Option.some.inj h1] at ga ⊢
        rw [Option.some.inj h2] at gb ⊢
        exact List.pairwise_iff_getElem.1 h.one a b hla hlb hab ga gb
theorem wakeN_ind (P : List Rq → Prop) (h : ∀ T i, P T → readyQ T i = true → P (grant T i)) : ∀ n T, P T → P (wakeN n T).1
  | 0, T, hp => hp
  | n + 1, T, hp => by
    unfold wakeN
    cases hf : (List.range T.length).find? (readyQ T) with
    | none => exact hp
    | some i => exact wakeN_ind P h n (grant T i) (h T i hp (List.find?_some hf))
theorem wake_ind (P : List Rq → Prop) (h : ∀ T i, P T → readyQ T i = true → P (grant T i)) {T : List Rq} (hp : P T) : P (wake T).1 := wakeN_ind P h _ T hp
theorem wakeN_ready : ∀ n T, waiting T ≤ n → ∀ i, readyQ (wakeN n T).1 i = false
  | 0, T, hw, i => by
    unfold wakeN
    cases hq : readyQ T i
    · rfl
    · obtain ⟨r, hr, hg, _⟩ := ready_ex hq
      have := waiting_grant hr hg
      omega
  | n + 1, T, hw, i => by
    unfold wakeN
    cases hf : (List.range T.length).find? (readyQ T) with
    | none =>
      show readyQ T i = false
      cases hq : readyQ T i
      · rfl
      · obtain ⟨r, hr, _, _⟩ := ready_ex hq
        have := List.find?_eq_none.1 hf i (List.mem_range.2 (List.getElem?_eq_some_iff.1 hr).1)
        exact absurd hq this
    | some j =>
      obtain ⟨r, hr, hg, _⟩ := ready_ex (List.find?_some hf)
      have := waiting_grant hr hg
      exact wakeN_ready n (grant T j) (by omega) i
theorem wake_ready (T : List Rq) (i : Nat) : readyQ (wake T).1 i = false := wakeN_ready _ T (Nat.le_refl _) i
theorem wake_len (T : List Rq) : (wake T).1.length = T.length :=
  wake_ind (fun T' => T'.length = T.length) (fun T' i h _ => by rw [← h]; simp [grant]) rfl
structure Inv (T : List Rq) : Prop where
  c : Core T
  rdy : ∀ i, readyQ T i = false
  len : T.length ≤ 500
theorem Inv.nil : Inv [] := ⟨Core.nil, fun i => by simp [readyQ], by simp⟩
theorem Inv.drop {T T' : List Rq} (h : Inv T) (hs : T'.Sublist T) : Inv (wake T').1 :=
  ⟨wake_ind Core (fun T i hc hq => hc.grant hq) (h.c.sub hs), wake_ready T', by rw [wake_len]; exact Nat.le_trans hs.length_le h.len⟩
theorem Inv.end_ {T : List Rq} (h : Inv T) (tx : Int) : Inv (endT T tx).1 := h.drop List.filter_sublist
theorem Inv.endS_ {T : List Rq} (h : Inv T) (tx : Int) : Inv (endS T tx).1 := h.drop List.filter_sublist
theorem new_is (T : List Rq) (tx : Int) (ob : Ob) (m : Int) (sh : Bool) (b : Bool) : (T ++ [⟨tx, ob, m, b, sh⟩] : List Rq) = if b then grant (T ++ [⟨tx, ob, m, false, sh⟩]) T.length else T ++ [⟨tx, ob, m, false, sh⟩] := by
  cases b
  · rfl
  · rw [if_pos rfl, grant, modify_last]
theorem ready_new {T : List Rq} {tx : Int} {ob : Ob} {m : Int} {sh : Bool} (h : mayB (T ++ [⟨tx, ob, m, false, sh⟩]) T.length = true) : readyQ (T ++ [⟨tx, ob, m, false, sh⟩]) T.length = true := by
  unfold readyQ
  simp [h]
/-- what Ask does to the requests, step by step -/
theorem ask_ind (P : List Rq → Prop) {T : List Rq} {most tx : Int} {ob : Ob} {m : Int} {sh : Bool} (h0 : P T) (h1 : P (T.map (shortF tx ob m sh))) (h2 : wfR ⟨tx, ob, m, false, sh⟩ → waitsB T tx = false → (T.length : Int) < most → P (T ++ [⟨tx, ob, m, false, sh⟩]))
    (h3 : ∀ T i, P T → readyQ T i = true → P (grant T i)) : P (askT most T tx ob m sh).1 := by
  unfold askT
  split
  · exact h0
  · rename_i hno
    split
    · exact h1
    · split
      · exact h0
      · rename_i hl
        have hw : wfR ⟨tx, ob, m, false, sh⟩ := by
          refine ⟨Int.not_lt.1 fun q => hno (.inl q), ?_, ?_, fun q => hno (.inr (.inr (.inl q)))⟩
          · cases q : pl ob.s ob.t ob.l ob.u ob.e
            · exact absurd (.inr (.inl q)) hno
            · rfl
          · cases q : rt m
            · exact absurd (.inr (.inr (.inr (.inl q)))) hno
            · rfl
        have hwt : waitsB T tx = false := by
          cases q : waitsB T tx
          · rfl
          · exact absurd (.inr (.inr (.inr (.inr q)))) hno
        have h4 := h2 hw hwt (by omega)
        simp only
        rw [new_is]
        split
        · rename_i hb
          exact h3 _ _ h4 (ready_new hb)
        · exact h4
theorem ask_len {T : List Rq} {most : Int} (h : (T.length : Int) ≤ most) (tx : Int) (ob : Ob) (m : Int) (sh : Bool) : ((askT most T tx ob m sh).1.length : Int) ≤ most :=
  ask_ind (fun T' => (T'.length : Int) ≤ most) h (by simpa using h) (fun _ _ hl => by simp; omega) (fun T' i h _ => by simpa [grant] using h)
theorem Inv.ask {T : List Rq} (h : Inv T) (tx : Int) (ob : Ob) (m : Int) (sh : Bool) : Inv (askT 500 T tx ob m sh).1 := by
  have hl := ask_len (most := 500) (show (T.length : Int) ≤ 500 by have := h.len; omega) tx ob m sh
  refine ⟨ask_ind Core h.c (h.c.map (shortF_key tx ob m sh)) (fun hw hn _ => h.c.add hw rfl hn) (fun T i hc hq => hc.grant hq), ?_, by omega⟩
  unfold askT
  split
  · exact h.rdy
  · split
    · intro i
      rw [readyQ_map T _ (shortF_key tx ob m sh)]
      exact h.rdy i
    · split
      · exact h.rdy
      · intro i
        simp only
        cases hb : mayB (T ++ [⟨tx, ob, m, false, sh⟩]) T.length
        · by_cases hi : i < T.length
          · have := h.rdy i
            unfold readyQ at this ⊢
            rw [List.getElem?_append_left hi]
            rw [List.getElem?_eq_getElem hi] at this ⊢
            simp only at this ⊢
            cases hg : (T[i]).g
            · rw [hg] at this
              rw [may_app T _ i hi (by simpa using this)]
              rfl
            · rfl
          · unfold readyQ
            rw [List.getElem?_append_right (by omega)]
            cases hd : i - T.length with
            | zero =>
              have : i = T.length := by omega
              subst this
              simp [hb]
            | succ n => simp
        · by_cases hi : i < T.length
          · have := h.rdy i
            unfold readyQ at this ⊢
            rw [List.getElem?_append_left hi]
            rw [List.getElem?_eq_getElem hi] at this ⊢
            simp only at this ⊢
            cases hg : (T[i]).g
            · rw [hg] at this
              rw [may_app T _ i hi (by simpa using this)]
              rfl
            · rfl
          · unfold readyQ
            rw [List.getElem?_append_right (by omega)]
            cases hd : i - T.length with
            | zero => simp
            | succ n => simp
/-- an act of a script -/
structure Sop where
  k : Int
  tx : Int
  o : Ob
  m : Int
  sh : Bool
def stepT (T : List Rq) (x : Sop) : List Rq := if x.k = 1 then (askT 500 T x.tx x.o x.m x.sh).1 else if x.k = 2 then (endT T x.tx).1 else if x.k = 3 then (endS T x.tx).1 else T
def playT (ops : List Sop) : List Rq := ops.foldl stepT []
theorem Inv.step {T : List Rq} (h : Inv T) (x : Sop) : Inv (stepT T x) := by
  unfold stepT
  split
  · exact h.ask _ _ _ _
  · split
    · exact h.end_ _
    · split
      · exact h.endS_ _
      · exact h
theorem play_inv (ops : List Sop) : Inv (playT ops) := by
  unfold playT
  suffices ∀ (ops : List Sop) T, Inv T → Inv (ops.foldl stepT T) from this ops [] Inv.nil
  intro ops
  induction ops with
  | nil => exact fun T h => h
  | cons x ops ih => exact fun T h => ih _ (h.step x)
theorem play_snoc (ops : List Sop) (x : Sop) : playT (ops ++ [x]) = stepT (playT ops) x := by simp [playT]
end Lk
end Go.Proofs.YtogcjflneedcfaaDoor

namespace Go.Proofs.YtogcjflneedcfaaDoor
open Go.RowKit Md Go.ChangeShapes Go.WideShapes Go.Deep
set_option linter.unusedVariables false
set_option linter.unusedSimpArgs false
namespace Lk

def sopArr (x : Sop) : List Value := [.int .i64 x.k, .int .i64 x.tx, .int .i64 x.o.s, .string x.o.t, .string x.o.l, .string x.o.u, .bool x.o.e, .int .i64 x.m, .bool x.sh]
def i64 (n : Int) : Prop := -9223372036854775808 ≤ n ∧ n ≤ 9223372036854775807
def SopAt (w : World) (ad : Addr) (x : Sop) : Prop := w.cell? ad = some (.int .i64 x.k) ∧ w.cell? ⟨ad.block, ad.off + 1, none⟩ = some (.int .i64 x.tx) ∧ w.cell? ⟨ad.block, ad.off + 2, none⟩ = some (.int .i64 x.o.s) ∧ w.cell? ⟨ad.block, ad.off + 3, none⟩ = some (.string x.o.t) ∧ w.cell? ⟨ad.block, ad.off + 4, none⟩ = some (.string x.o.l) ∧ w.cell? ⟨ad.block, ad.off + 5, none⟩ = some (.string x.o.u) ∧ w.cell? ⟨ad.block, ad.off + 6, none⟩ = some (.bool x.o.e) ∧ w.cell? ⟨ad.block, ad.off + 7, none⟩ = some (.int .i64 x.m) ∧ w.cell? ⟨ad.block, ad.off + 8, none⟩ = some (.bool x.sh) ∧ i64 x.tx
def OpsIn (w : World) (v : Value) (l : List Sop) : Prop := ∃ (a : Option Addr) (c : Nat), v = .slice a l.length c ∧ l.length ≤ 9223372036854775807 ∧ ∀ (j : Nat) (x : Sop), l[j]? = some x → ∃ ad, a = some ad ∧ SopAt w (ad.add (j * 9)) x
theorem add_fld (a : Addr) (n j : Nat) (h : 0 < j) : a.add (n + j) = ⟨(a.add n).block, (a.add n).off + j, none⟩ := by
  unfold Addr.add
  by_cases hn : n = 0
  · subst hn
    simp [show ¬ j = 0 by omega]
  · simp [hn, show ¬ n + j = 0 by omega]
    omega
set_option maxRecDepth 100000 in
theorem ops_in {H : Type} {enc : TypeId × Value → H} {w : World} {base : Nat} {held : Bool} {v : Value} {x : DataW H × List MemPlace} {fuel : Nat} (hf : DataW.trod enc Tryd.prog w base (fun _ => true) held fuel 22 [v] = some x) : ∃ l, OpsIn w v l := by
  rcases open_slice Tryd.underlying22 hf with ⟨hc, _⟩ | ⟨a, len, cap, m, n, D, Pl, hc, hb, hl, hm, hmm, hx, hi⟩
  · cases hc
    exact ⟨[], none, 0, rfl, by simp, fun j x hj => by simp at hj⟩
  · cases hc
    have hC : Tryd.prog.cellsOf 40 = 9 := by kernel_rfl
    have hex : ∀ i, i < len → ∃ x : Sop, SopAt w (a.add (i * 9)) x := by
      intro i hil
      obtain ⟨cs, hcs, ht⟩ := hi i (by rw [hmm]; simp; omega)
      rw [hC] at hcs
      obtain ⟨_, hcl, hat⟩ := World.cells?_some hcs
      obtain ⟨a0, a1, a2, a3, a4, a5, a6, a7, a8, rfl⟩ : ∃ a0 a1 a2 a3 a4 a5 a6 a7 a8, cs = [a0, a1, a2, a3, a4, a5, a6, a7, a8] := by
        match cs, hcl with
        | [a0, a1, a2, a3, a4, a5, a6, a7, a8], _ => exact ⟨a0, a1, a2, a3, a4, a5, a6, a7, a8, rfl⟩
      obtain ⟨ys, n', hn', hy, hlen, hyl, hfs⟩ := DataW.trod_struct Tryd.underlying40 ht
      obtain ⟨y0, y1, y2, y3, y4, rfl⟩ : ∃ y0 y1 y2 y3 y4, ys = [y0, y1, y2, y3, y4] := by
        match ys, hyl with
        | [y0, y1, y2, y3, y4], _ => exact ⟨y0, y1, y2, y3, y4, rfl⟩
      have c3 : Tryd.prog.cellsOf 3 = 1 := by kernel_rfl
      have c4 : Tryd.prog.cellsOf 4 = 1 := by kernel_rfl
      have c9 : Tryd.prog.cellsOf 9 = 1 := by kernel_rfl
      have c30 : Tryd.prog.cellsOf 30 = 5 := by kernel_rfl
      have f0 : DataW.trod enc Tryd.prog w base (fun _ => true) held n' 3 (List.take (Tryd.prog.cellsOf 3) (List.drop 0 [a0, a1, a2, a3, a4, a5, a6, a7, a8])) = some y0 := hfs 0 _ rfl
      have f1 : DataW.trod enc Tryd.prog w base (fun _ => true) held n' 3 (List.take (Tryd.prog.cellsOf 3) (List.drop 1 [a0, a1, a2, a3, a4, a5, a6, a7, a8])) = some y1 := hfs 1 _ rfl
      have f2 : DataW.trod enc Tryd.prog w base (fun _ => true) held n' 30 (List.take (Tryd.prog.cellsOf 30) (List.drop 2 [a0, a1, a2, a3, a4, a5, a6, a7, a8])) = some y2 := hfs 2 _ rfl
      have f3 : DataW.trod enc Tryd.prog w base (fun _ => true) held n' 3 (List.take (Tryd.prog.cellsOf 3) (List.drop 7 [a0, a1, a2, a3, a4, a5, a6, a7, a8])) = some y3 := hfs 3 _ rfl
      have f4 : DataW.trod enc Tryd.prog w base (fun _ => true) held n' 4 (List.take (Tryd.prog.cellsOf 4) (List.drop 8 [a0, a1, a2, a3, a4, a5, a6, a7, a8])) = some y4 := hfs 4 _ rfl
      rw [c3] at f0 f1 f3
      rw [c4] at f4
      rw [c30] at f2
      obtain ⟨zs, n2, hn2, hz, hlz, hzl, hgs⟩ := DataW.trod_struct Tryd.underlying30 f2
      obtain ⟨z0, z1, z2, z3, z4, rfl⟩ : ∃ z0 z1 z2 z3 z4, zs = [z0, z1, z2, z3, z4] := by
        match zs, hzl with
        | [z0, z1, z2, z3, z4], _ => exact ⟨z0, z1, z2, z3, z4, rfl⟩
      have g0 : DataW.trod enc Tryd.prog w base (fun _ => true) held n2 3 (List.take (Tryd.prog.cellsOf 3) (List.drop 0 [a2, a3, a4, a5, a6])) = some z0 := hgs 0 _ rfl
      have g1 : DataW.trod enc Tryd.prog w base (fun _ => true) held n2 9 (List.take (Tryd.prog.cellsOf 9) (List.drop 1 [a2, a3, a4, a5, a6])) = some z1 := hgs 1 _ rfl
      have g2 : DataW.trod enc Tryd.prog w base (fun _ => true) held n2 9 (List.take (Tryd.prog.cellsOf 9) (List.drop 2 [a2, a3, a4, a5, a6])) = some z2 := hgs 2 _ rfl
      have g3 : DataW.trod enc Tryd.prog w base (fun _ => true) held n2 9 (List.take (Tryd.prog.cellsOf 9) (List.drop 3 [a2, a3, a4, a5, a6])) = some z3 := hgs 3 _ rfl
      have g4 : DataW.trod enc Tryd.prog w base (fun _ => true) held n2 4 (List.take (Tryd.prog.cellsOf 4) (List.drop 4 [a2, a3, a4, a5, a6])) = some z4 := hgs 4 _ rfl
      rw [c3] at g0
      rw [c9] at g1 g2 g3
      rw [c4] at g4
      obtain ⟨s0, e0, _, _⟩ := DataW.trod_int Tryd.underlying3 f0
      obtain ⟨s1, e1, _, b1⟩ := DataW.trod_int Tryd.underlying3 f1
      obtain ⟨s3, e3, _, _⟩ := DataW.trod_int Tryd.underlying3 f3
      obtain ⟨s4, e4, _⟩ := DataW.trod_bool Tryd.underlying4 f4
      obtain ⟨t0, d0, _, _⟩ := DataW.trod_int Tryd.underlying3 g0
      obtain ⟨t1, d1, _, _⟩ := DataW.trod_string Tryd.underlying9 g1
      obtain ⟨t2, d2, _, _⟩ := DataW.trod_string Tryd.underlying9 g2
      obtain ⟨t3, d3, _, _⟩ := DataW.trod_string Tryd.underlying9 g3
      obtain ⟨t4, d4, _⟩ := DataW.trod_bool Tryd.underlying4 g4
      have e0' : [a0] = [Value.int .i64 s0] := e0
      have e1' : [a1] = [Value.int .i64 s1] := e1
      have e3' : [a7] = [Value.int .i64 s3] := e3
      have e4' : [a8] = [Value.bool s4] := e4
      have d0' : [a2] = [Value.int .i64 t0] := d0
      have d1' : [a3] = [Value.string t1] := d1
      have d2' : [a4] = [Value.string t2] := d2
      have d3' : [a5] = [Value.string t3] := d3
      have d4' : [a6] = [Value.bool t4] := d4
      simp only [List.cons.injEq, and_true] at e0' e1' e3' e4' d0' d1' d2' d3' d4'
      subst e0' e1' e3' e4' d0' d1' d2' d3' d4'
      have hz : i64 s1 := by have hz := b1; simp only [Lit.wf, Bool.and_eq_true, decide_eq_true_eq] at hz; exact hz
      refine ⟨⟨s0, s1, ⟨t0, t1, t2, t3, t4⟩, s3, s4⟩, ?_, ?_, ?_, ?_, ?_, ?_, ?_, ?_, ?_, hz⟩
      · have := hat 0 (by decide)
        rw [Go.Deep.add_add, Nat.add_zero] at this
        simpa using this
      · have := hat 1 (by decide)
        rw [Go.Deep.add_add, add_fld _ _ 1 (by omega)] at this
        simpa using this
      · have := hat 2 (by decide)
        rw [Go.Deep.add_add, add_fld _ _ 2 (by omega)] at this
        simpa using this
      · have := hat 3 (by decide)
        rw [Go.Deep.add_add, add_fld _ _ 3 (by omega)] at this
        simpa using this
      · have := hat 4 (by decide)
        rw [Go.Deep.add_add, add_fld _ _ 4 (by omega)] at this
        simpa using this
      · have := hat 5 (by decide)
        rw [Go.Deep.add_add, add_fld _ _ 5 (by omega)] at this
        simpa using this
      · have := hat 6 (by decide)
        rw [Go.Deep.add_add, add_fld _ _ 6 (by omega)] at this
        simpa using this
      · have := hat 7 (by decide)
        rw [Go.Deep.add_add, add_fld _ _ 7 (by omega)] at this
        simpa using this
      · have := hat 8 (by decide)
        rw [Go.Deep.add_add, add_fld _ _ 8 (by omega)] at this
        simpa using this
    let g : Nat → Sop := fun i => if q : i < len then (hex i q).choose else ⟨0, 0, ⟨0, ⟨#[]⟩, ⟨#[]⟩, ⟨#[]⟩, false⟩, 0, false⟩
    have hg : ∀ i, i < len → SopAt w (a.add (i * 9)) (g i) := by
      intro i q
      simp only [g, dif_pos q]
      exact (hex i q).choose_spec
    have hlen : ((List.range len).map g).length = len := by simp
    refine ⟨(List.range len).map g, some a, cap, by rw [hlen], by rw [hlen]; unfold maxLen at hm; omega, fun j x hj => ⟨a, rfl, ?_⟩⟩
    have hjl := (List.getElem?_eq_some_iff.1 hj).1
    rw [hlen] at hjl
    rw [List.getElem?_map, List.getElem?_range hjl] at hj
    obtain rfl : g j = x := Option.some.inj hj
    exact hg j hjl
end Lk
end Go.Proofs.YtogcjflneedcfaaDoor

namespace Go.Proofs.YtogcjflneedcfaaDoor
open Go.RowKit Md Go.Shelf Go.Proofs.YtogcjflneedcfaaDoorW.PrintWords
set_option linter.unusedVariables false
set_option linter.unusedSimpArgs false
namespace Lk

def LPl (w : World) (ops : List Sop) (n : Nat) (i : Value) (wr : World) : Prop := ∃ k : Nat, i = .int .i64 k ∧ k ≤ ops.length ∧ k ≤ n ∧ Tab (fun b => w.heap.size ≤ b) wr w.heap.size 500 (playT (ops.take k)) ∧ Gl wr ∧ Fr (fun b => w.heap.size ≤ b) w wr
theorem take_all {α : Type} (l : List α) (n k : Nat) (h : k = l.length ∨ k = n) (h1 : k ≤ l.length) (h2 : k ≤ n) : l.take k = l.take n := by
  rcases h with h | h
  · rw [List.take_of_length_le (by omega), List.take_of_length_le (by omega)]
  · rw [h]
set_option maxHeartbeats 2000000 in
set_option maxRecDepth 100000 in
theorem play_any (v : Value) (ops : List Sop) (n : Nat) (hn : n ≤ 1000) (w : World) (gl : Gl w) (h0 : OpsIn w v ops) : Calls Tryd.prog 11 #[v, .int .i64 n] w fun e w' => e = .returned (.pointer (some ⟨w.heap.size, 0, none⟩)) ∧ Tab (fun b => w.heap.size ≤ b) w' w.heap.size 500 (playT (ops.take n)) ∧ St w w' := by
  obtain ⟨a, c, rfl, hlen, hops⟩ := h0
  have HOPS := Lib.hid hops
  clear hops
  go_enter Tryd.func11, Tryd.ntmps11
  go_wp2_with fail
  refine (new_yes 500 w gl (by decide) (by decide)).mono ?_
  rintro e w0 ⟨rfl, ht0, hs0⟩
  unfold ptr
  have HT0 := Lib.hid ht0
  have HS0 := Lib.hid hs0
  clear ht0 hs0
  go_wp2_with fail
  go_loopw [7] (fun i wr => LPl w ops n i wr) (fun i _ => n - (intOf i).toNat)
  case atStart => exact ⟨0, rfl, Nat.zero_le _, Nat.zero_le _, HT0.out, HS0.out.gl, Fr.of_below HS0.out.b⟩
  case round =>
    clear HT0 HS0
    obtain ⟨k, rfl, hk1, hk2, ht, hg, hf⟩ := hrel
    have HT := Lib.hid ht
    have HG := Lib.hid hg
    have HF := Lib.hid hf
    clear ht hg hf
    by_cases hlt : k < ops.length ∧ k < n
    · obtain ⟨g1, g2⟩ := hlt
      have t1 : decide (k < ops.length) = true := decide_eq_true g1
      have t2 : decide (k < n) = true := decide_eq_true g2
      have t3 : (k : Int) < ops.length := by omega
      have t4 : (k : Int) < n := by omega
      obtain ⟨x, hx⟩ : ∃ x, ops[k]? = some x := ⟨ops[k], List.getElem?_eq_getElem g1⟩
      obtain ⟨ad, rfl, hop⟩ := HOPS.out k x hx
      have HTK := Lib.hid (show ops.take (k + 1) = ops.take k ++ [x] by rw [List.take_add_one, hx]; rfl)
      have hbw : Below w.heap.size w wr := HF.out.below (Nat.le_refl _) (fun i hi q => by omega)
      obtain ⟨q0, q1, q2, q3, q4, q5, q6, q7, q8, q9⟩ := hop
      have o0 := (hbw.cell (World.block_lt_of_cell? w _ q0)).trans q0
      have o1 := (hbw.cell (World.block_lt_of_cell? w _ q1)).trans q1
      have o2 := (hbw.cell (World.block_lt_of_cell? w _ q2)).trans q2
      have o3 := (hbw.cell (World.block_lt_of_cell? w _ q3)).trans q3
      have o4 := (hbw.cell (World.block_lt_of_cell? w _ q4)).trans q4
      have o5 := (hbw.cell (World.block_lt_of_cell? w _ q5)).trans q5
      have o6 := (hbw.cell (World.block_lt_of_cell? w _ q6)).trans q6
      have o7 := (hbw.cell (World.block_lt_of_cell? w _ q7)).trans q7
      have o8 := (hbw.cell (World.block_lt_of_cell? w _ q8)).trans q8
      have HB4 := Lib.hid (show Below wr.heap.size wr (wr.alloc (.cells #[.int .i64 x.k, .int .i64 x.tx, .int .i64 x.o.s, .string x.o.t, .string x.o.l, .string x.o.u, .bool x.o.e, .int .i64 x.m, .bool x.sh] 40)) from (Below.refl _ _).alloc (Nat.le_refl _) _)
      have HT4 := Lib.hid (HT.out.below HB4.out)
      have HG4 := Lib.hid (((St.refl HG.out).alloc (.cells #[.int .i64 x.k, .int .i64 x.tx, .int .i64 x.o.s, .string x.o.t, .string x.o.l, .string x.o.u, .bool x.o.e, .int .i64 x.m, .bool x.sh] 40)).gl)
      clear q0 q1 q2 q3 q4 q5 q6 q7 q8 q9 hbw hx
      by_cases hk1' : x.k = 1
      · have e1 := Lib.hid hk1'
        have e1' : (x.k == 1) = true := by rw [hk1']; rfl
        clear hk1'
        go_wp2_with fail
        refine (ask_any _ w.heap.size (playT (ops.take k)) 500 x.tx x.o x.m x.sh _ HG4.out HT4.out (by have := (play_inv (ops.take k)).len; omega) (by decide)).mono ?_
        rintro e w5 ⟨rfl, h1, h2, h3⟩
        have HT5 := Lib.hid (h1.mono (G := fun b => w.heap.size ≤ b) (fun b _ hb => hb.elim id (Nat.le_trans (Nat.le_trans HF.out.size HB4.out.size))))
        have HF5 := Lib.hid h2
        have HG5 := Lib.hid h3
        clear h1 h2 h3
        have HTN := Lib.hid (show Tab (fun b => w.heap.size ≤ b) w5 w.heap.size 500 (playT (ops.take (k + 1))) by rw [HTK.out, play_snoc, show stepT (playT (ops.take k)) x = (askT 500 (playT (ops.take k)) x.tx x.o x.m x.sh).1 by simp [stepT, e1.out]]; exact HT5.out)
        have HGN := HG5
        have HFN := Lib.hid (((HF.out.trans (Fr.of_below HB4.out)).trans HF5.out))
        clear o0 o1 o2 o3 o4 o5 o6 o7 o8
        go_wp2_with fail
        go_roundw
        case rel => exact ⟨k + 1, by go_num, by omega, by omega, HTN.out, HGN.out, HFN.out⟩
        case measure => simp [intOf]; omega
      · have e1 := Lib.hid hk1'
        have e1' : (x.k == 1) = false := beq_false_of_ne hk1'
        by_cases hk2' : x.k = 2
        · have e2 := Lib.hid hk2'
          have e2' : (x.k == 2) = true := by rw [hk2']; rfl
          clear hk2'
          go_wp2_with fail
          refine (end_any _ w.heap.size (playT (ops.take k)) 500 x.tx _ HG4.out HT4.out (by have := (play_inv (ops.take k)).len; omega)).mono ?_
          rintro e w5 ⟨wv, rfl, h1, h0, h2, h3⟩
          have HT5 := Lib.hid h1
          have HF5 := Lib.hid h2
          have HG5 := Lib.hid h3
          clear h1 h2 h3 h0
          have HTN := Lib.hid (show Tab (fun b => w.heap.size ≤ b) w5 w.heap.size 500 (playT (ops.take (k + 1))) by rw [HTK.out, play_snoc, show stepT (playT (ops.take k)) x = (endT (playT (ops.take k)) x.tx).1 by simp [stepT, e1.out, e2.out]]; exact HT5.out)
          have HGN := HG5
          have HFN := Lib.hid (((HF.out.trans (Fr.of_below HB4.out)).trans HF5.out))
          clear o0 o1 o2 o3 o4 o5 o6 o7 o8
          go_wp2_with fail
          go_roundw
          case rel => exact ⟨k + 1, by go_num, by omega, by omega, HTN.out, HGN.out, HFN.out⟩
          case measure => simp [intOf]; omega
        · have e2 := Lib.hid hk2'
          have e2' : (x.k == 2) = false := beq_false_of_ne hk2'
          by_cases hk3' : x.k = 3
          · have e3 := Lib.hid hk3'
            have e3' : (x.k == 3) = true := by rw [hk3']; rfl
            clear hk3'
            go_wp2_with fail
            refine (endshort_any _ w.heap.size (playT (ops.take k)) 500 x.tx _ HG4.out HT4.out (by have := (play_inv (ops.take k)).len; omega)).mono ?_
            rintro e w5 ⟨wv, rfl, h1, h0, h2, h3⟩
            have HT5 := Lib.hid h1
            have HF5 := Lib.hid h2
            have HG5 := Lib.hid h3
            clear h1 h2 h3 h0
            have HTN := Lib.hid (show Tab (fun b => w.heap.size ≤ b) w5 w.heap.size 500 (playT (ops.take (k + 1))) by rw [HTK.out, play_snoc, show stepT (playT (ops.take k)) x = (endS (playT (ops.take k)) x.tx).1 by simp [stepT, e1.out, e2.out, e3.out]]; exact HT5.out)
            have HGN := HG5
            have HFN := Lib.hid (((HF.out.trans (Fr.of_below HB4.out)).trans HF5.out))
            clear o0 o1 o2 o3 o4 o5 o6 o7 o8
            go_wp2_with fail
            go_roundw
            case rel => exact ⟨k + 1, by go_num, by omega, by omega, HTN.out, HGN.out, HFN.out⟩
            case measure => simp [intOf]; omega
          · have e3 := Lib.hid hk3'
            have e3' : (x.k == 3) = false := beq_false_of_ne hk3'
            have HT5 := HT4
            have HF5 := Lib.hid (Fr.refl (fun b => w.heap.size ≤ b) (wr.alloc (.cells #[.int .i64 x.k, .int .i64 x.tx, .int .i64 x.o.s, .string x.o.t, .string x.o.l, .string x.o.u, .bool x.o.e, .int .i64 x.m, .bool x.sh] 40)))
            have HG5 := HG4
            have HTN := Lib.hid (show Tab (fun b => w.heap.size ≤ b) (wr.alloc (.cells #[.int .i64 x.k, .int .i64 x.tx, .int .i64 x.o.s, .string x.o.t, .string x.o.l, .string x.o.u, .bool x.o.e, .int .i64 x.m, .bool x.sh] 40)) w.heap.size 500 (playT (ops.take (k + 1))) by rw [HTK.out, play_snoc, show stepT (playT (ops.take k)) x = playT (ops.take k) by simp [stepT, e1.out, e2.out, e3.out]]; exact HT5.out)
            have HGN := HG5
            have HFN := Lib.hid (((HF.out.trans (Fr.of_below HB4.out)).trans HF5.out))
            go_wp2_with fail
            go_roundw
            case rel => exact ⟨k + 1, by go_num, by omega, by omega, HTN.out, HGN.out, HFN.out⟩
            case measure => simp [intOf]; omega
    · have HTE := Lib.hid (take_all ops n k (by omega) hk1 hk2)
      have hx : (decide (k < ops.length) = false) ∨ (decide (k < ops.length) = true ∧ decide (k < n) = false) := by
        by_cases g1 : k < ops.length
        · exact .inr ⟨decide_eq_true g1, decide_eq_false (by omega)⟩
        · exact .inl (decide_eq_false g1)
      clear hlt hk1 hk2 HOPS
      rcases hx with t1 | ⟨t1, t2⟩
      all_goals
        go_wp2_with fail
        go_ret
        rw [← HTE.out]
        exact ⟨rfl, HT.out, HF.out.below (Nat.le_refl _) (fun i hi q => by omega), gl⟩
end Lk
end Go.Proofs.YtogcjflneedcfaaDoor
