/-
  Behind EndShort a transaction has no granted request that is short, but those that were granted by that; each that was not short it has still; behind End it has none. It is proved for every input; the row lists the two package-level tables of the package modes, tied to the program's text.
-/
import Derived.Test.YtogcjflneedcfaaDoorXLocksShort2
import Derived.Deep.QuietTactic
import Derived.BigQuiet
import Derived.Test.YtogcjflneedcfaaDoorXLocksShort1
import Derived.Test.YtogcjflneedcfaaDoorCards
import Derived.Test.YtogcjflneedcfaaDoorTie
namespace Go.Proofs.YtogcjflneedcfaaDoor
open Go.RowKit Md Go.Shelf
set_option linter.unusedVariables false
set_option linter.unusedSimpArgs false
namespace Lk

def ReqAt (w : World) (g i : Nat) (r : Rq) : Prop := w.cell? ⟨g, i * 9, none⟩ = some (.int .i64 r.tx) ∧ w.cell? ⟨g, i * 9 + 1, none⟩ = some (.int .i64 r.o.s) ∧ w.cell? ⟨g, i * 9 + 2, none⟩ = some (.string r.o.t) ∧ w.cell? ⟨g, i * 9 + 3, none⟩ = some (.string r.o.l) ∧ w.cell? ⟨g, i * 9 + 4, none⟩ = some (.string r.o.u) ∧ w.cell? ⟨g, i * 9 + 5, none⟩ = some (.bool r.o.e) ∧ w.cell? ⟨g, i * 9 + 6, none⟩ = some (.int .i64 r.m) ∧ w.cell? ⟨g, i * 9 + 7, none⟩ = some (.bool r.g) ∧ w.cell? ⟨g, i * 9 + 8, none⟩ = some (.bool r.s)
/-- a list of requests, in a row that nobody writes -/
def ReqsIn (w : World) (b : Nat) (v : Value) (T : List Rq) : Prop := ∃ (a : Option Addr) (c : Nat), v = .slice a T.length c ∧ (∀ g, v.ownBlock = some g → b ≤ g ∧ g < w.heap.size) ∧ ∀ (i : Nat) (r : Rq), T[i]? = some r → ∃ g, a = some ⟨g, 0, none⟩ ∧ ReqAt w g i r
theorem rqs_len : ∀ (T : List Rq), (rqs T).length = T.length * 9
  | [] => rfl
  | r :: T => by
    have := rqs_len T
    simp [rqs] at this ⊢
    rw [this]
    simp [Rq.arr]
    omega
theorem rqs_at : ∀ (T : List Rq) (i j : Nat) (r : Rq), T[i]? = some r → j < 9 → (rqs T)[i * 9 + j]? = r.arr[j]?
  | [], i, j, r, h, _ => by simp at h
  | x :: T, 0, j, r, h, hj => by
    simp only [List.getElem?_cons_zero, Option.some.injEq] at h
    subst h
    have e : rqs (x :: T) = x.arr.toList ++ rqs T := by simp [rqs]
    rw [e, List.getElem?_append_left (by simp [Rq.arr]; omega)]
    simp
  | x :: T, i + 1, j, r, h, hj => by
    simp only [List.getElem?_cons_succ] at h
    have e : rqs (x :: T) = x.arr.toList ++ rqs T := by simp [rqs]
    rw [e, List.getElem?_append_right (by simp [Rq.arr]; omega)]
    rw [← rqs_at T i j r h hj]
    congr 1
    simp [Rq.arr]
    omega
theorem reqs_of {w : World} {b : Nat} {v : Value} {T : List Rq} (h : w.ownsRow b 33 9 v T.length (rqs T)) : ReqsIn w b v T := by
  obtain ⟨a, c, rfl⟩ := own_slice h
  refine ⟨a, c, rfl, fun g hg => h.lt g hg, fun i r hr => ?_⟩
  have hi := (List.getElem?_eq_some_iff.1 hr).1
  rcases h.2 with ⟨_, q⟩ | ⟨g, cap, cur, q, q1, q2, q3, q4, q5, q6⟩
  · omega
  · cases q
    refine ⟨g, rfl, ?_⟩
    have hc : ∀ j, j < 9 → w.cell? ⟨g, i * 9 + j, none⟩ = r.arr[j]? := fun j hj => by
      rw [Md.blk_cell q2]
      have h2 : (cur.toList.take (T.length * 9))[i * 9 + j]? = (rqs T)[i * 9 + j]? := by rw [q6]
      rw [List.getElem?_take_of_lt (by omega), rqs_at T i j r hr hj] at h2
      simpa using h2
    exact ⟨(hc 0 (by decide)).trans rfl, (hc 1 (by decide)).trans rfl, (hc 2 (by decide)).trans rfl, (hc 3 (by decide)).trans rfl, (hc 4 (by decide)).trans rfl, (hc 5 (by decide)).trans rfl, (hc 6 (by decide)).trans rfl, (hc 7 (by decide)).trans rfl, (hc 8 (by decide)).trans rfl⟩
theorem ReqAt.of {w w' : World} {g i : Nat} {r : Rq} (h : ReqAt w g i r) (hg : w'.heap[g]? = w.heap[g]?) : ReqAt w' g i r := by
  unfold ReqAt at h ⊢
  simp only [World.cell?, hg] at h ⊢
  exact h
theorem ReqsIn.below {w w' : World} {b : Nat} {v : Value} {T : List Rq} (h : ReqsIn w b v T) (hb : Below w.heap.size w w') : ReqsIn w' b v T := by
  obtain ⟨a, c, rfl, h1, h2⟩ := h
  refine ⟨a, c, rfl, fun g hg => ⟨(h1 g hg).1, Nat.lt_of_lt_of_le (h1 g hg).2 hb.size⟩, fun i r hr => ?_⟩
  obtain ⟨g, rfl, h3⟩ := h2 i r hr
  exact ⟨g, rfl, h3.of (hb.block g (h1 g rfl).2)⟩
theorem ReqsIn.keep {F : Nat → Prop} {w w' : World} {b : Nat} {v : Value} {T : List Rq} (h : ReqsIn w b v T) (hf : Fr F w w') (hn : ∀ g, b ≤ g → g < w.heap.size → ¬ F g) : ReqsIn w' b v T := by
  obtain ⟨a, c, rfl, h1, h2⟩ := h
  refine ⟨a, c, rfl, fun g hg => ⟨(h1 g hg).1, Nat.lt_of_lt_of_le (h1 g hg).2 hf.size⟩, fun i r hr => ?_⟩
  obtain ⟨g, rfl, h3⟩ := h2 i r hr
  exact ⟨g, rfl, h3.of (hf.keep g (h1 g rfl).2 (hn g (h1 g rfl).1 (h1 g rfl).2))⟩
theorem ReqsIn.get {w : World} {b : Nat} {a : Option Addr} {n c : Nat} {T : List Rq} (h : ReqsIn w b (.slice a n c) T) {k : Nat} {r : Rq} (hr : T[k]? = some r) : ∃ g, a = some ⟨g, 0, none⟩ ∧ ReqAt w g k r := by
  obtain ⟨a5, c5, e5, _, h5⟩ := h
  cases e5
  exact h5 k r hr
theorem ReqsIn.elem {w : World} {b g : Nat} {n c : Nat} {T : List Rq} (h : ReqsIn w b (.slice (some ⟨g, 0, none⟩) n c) T) {k : Nat} {r : Rq} (hr : T[k]? = some r) : ReqAt w g k r := by
  obtain ⟨g5, e6, h6⟩ := h.get hr
  cases e6
  exact h6
theorem list_in (F : Nat → Prop) (D : Nat) (T : List Rq) (most : Int) (w : World) (gl : Gl w) (ht : Tab F w D most T) (hT : T.length ≤ 2000) :
    Calls Tryd.prog 13 #[.pointer (some ⟨D, 0, none⟩)] w fun e w' => ∃ a c, e = .returned (.slice a T.length c) ∧ ReqsIn w' w.heap.size (.slice a T.length c) T ∧ St w w' :=
  (list_any F D T most w gl ht hT).mono fun e w' ⟨lv, h1, h2, h3⟩ => by
    obtain ⟨a, c, rfl⟩ := own_slice h2
    exact ⟨a, c, h1, reqs_of h2, h3⟩
/-! what the rows of a law lean on -/
theorem wake_from (T : List Rq) : ∀ r ∈ (wake T).1, ∃ r0 ∈ T, r = r0 ∨ (r0.g = false ∧ r = { r0 with g := true }) :=
  wake_ind (fun T' => ∀ r ∈ T', ∃ r0 ∈ T, r = r0 ∨ (r0.g = false ∧ r = { r0 with g := true })) (fun T' i h hq r hr => by
    obtain ⟨x, hx, hg, _⟩ := ready_ex hq
    rcases grant_mem hx hr with hr | rfl
    · exact h r hr
    · obtain ⟨r0, h0, h1⟩ := h x (List.mem_of_getElem? hx)
      rcases h1 with rfl | ⟨h1, rfl⟩
      · exact ⟨x, h0, .inr ⟨hg, rfl⟩⟩
      · cases hg) (fun r hr => ⟨r, hr, .inl rfl⟩)
theorem mem_grant {T : List Rq} {i : Nat} {r : Rq} (h : r ∈ T) (hg : r.g = true) : r ∈ grant T i := by
  obtain ⟨j, hj⟩ := List.mem_iff_getElem?.1 h
  refine List.mem_of_getElem? (i := j) ?_
  rw [grant_at]
  by_cases e : i = j
  · rw [if_pos e, hj]
    obtain ⟨tx, o, m, g, s⟩ := r
    simp only at hg
    subst hg
    rfl
  · rw [if_neg e, hj]
theorem wake_has {T : List Rq} {r : Rq} (h : r ∈ T) (hg : r.g = true) : r ∈ (wake T).1 :=
  wake_ind (fun T' => r ∈ T') (fun T' i hm _ => mem_grant hm hg) h
theorem le_refl_b (a : ByteArray) : (Op.bytesLess a.toList a.toList || a.toList == a.toList) = true := by simp
theorem within_refl {o : Ob} (h : pl o.s o.t o.l o.u o.e = true) : withB o.s o.t o.l o.u o.e o.s o.t o.l o.u o.e = true := by
  have h1 : al o.s o.t o.l o.u o.e o.s o.t o.l o.u o.e = true := by unfold al; rw [h]; simp
  have h2 : Op.bytesLess o.l.toList o.l.toList = false := by rw [bytesLess_eq]; simp
  unfold withB up
  rw [h1, h2, le_refl_b]
  cases o.e <;> simp
theorem meet_refl {o : Ob} (h : pl o.s o.t o.l o.u o.e = true) : meetB o.s o.t o.l o.u o.e o.s o.t o.l o.u o.e = true := by
  have h1 : al o.s o.t o.l o.u o.e o.s o.t o.l o.u o.e = true := by unfold al; rw [h]; simp
  unfold meetB up
  rw [h1]
  unfold pl at h
  by_cases h3 : o.s < 2
  · simp [h3]
  · by_cases h4 : 7 < o.s
    · simp [show ¬ o.s < 0 by omega, h4] at h
    · simp only [show ¬ o.s < 0 by omega, h4, show ¬ o.s = 0 by omega, show ¬ o.s = 1 by omega, if_false, Bool.and_eq_true] at h
      cases he : o.e
      · rw [he] at h
        have := h.2
        simp only [Bool.false_eq_true, if_false] at this
        rw [this]
        simp
      · simp
theorem covers_refl {m : Int} (h : rt m = true) : covB m m = true := by
  rcases dec_t h with rfl | rfl | rfl | rfl | rfl | rfl | rfl <;> decide +kernel
theorem has_self {T : List Rq} {r : Rq} (h : r ∈ T) (hg : r.g = true) (hw : wfR r) : hasB T r.tx r.o r.m = true := by
  obtain ⟨i, hi⟩ := List.mem_iff_getElem?.1 h
  refine anyB_true.2 ⟨i, (List.getElem?_eq_some_iff.1 hi).1, ?_⟩
  simp only [hi]
  unfold holds
  rw [hg, within_refl hw.2.1, covers_refl hw.2.2.1]
  simp
end Lk
end Go.Proofs.YtogcjflneedcfaaDoor

namespace Go.Proofs.YtogcjflneedcfaaDoor
open Go.RowKit Md Go.Shelf Go.Proofs.YtogcjflneedcfaaDoorW.PrintWords
set_option linter.unusedVariables false
set_option linter.unusedSimpArgs false
namespace Lk

theorem short_waited {T : List Rq} {tx : Int} {r : Rq} (hr : r ∈ (endS T tx).1) (ht : r.tx = tx) (hs : r.s = true) (hg : r.g = true) : ∃ (k : Nat) (a : Rq), T[k]? = some a ∧ a.tx = tx ∧ a.g = false ∧ obEq a.o r.o = true := by
  obtain ⟨r0, h0, h1⟩ := wake_from _ r hr
  obtain ⟨hm, hf⟩ := List.mem_filter.1 h0
  rcases h1 with rfl | ⟨hg0, rfl⟩
  · simp [ht, hg, hs] at hf
  · obtain ⟨k, hk⟩ := List.mem_iff_getElem?.1 hm
    exact ⟨k, r0, hk, ht, hg0, (obEq_iff _ _).2 rfl⟩
theorem short_has {T : List Rq} (hi : Inv T) {tx : Int} {r : Rq} (hr : r ∈ T) (ht : r.tx = tx) (hg : r.g = true) (hs : r.s = false) : hasB (endS T tx).1 tx r.o r.m = true := by
  rw [← ht]
  refine has_self (wake_has (List.mem_filter.2 ⟨hr, by simp [hs]⟩) hg) hg (hi.c.wf r hr)
theorem end_none {T : List Rq} {tx : Int} {r : Rq} (hr : r ∈ (endT T tx).1) : r.tx ≠ tx := by
  obtain ⟨r0, h0, h1⟩ := wake_from _ r hr
  obtain ⟨hm, hf⟩ := List.mem_filter.1 h0
  have : r0.tx ≠ tx := by simpa using hf
  rcases h1 with rfl | ⟨_, rfl⟩
  · exact this
  · exact this
def LSi (n : Nat) (w : World) (i : Value) (wr : World) : Prop := ∃ k : Nat, i = .int .i64 k ∧ k ≤ n ∧ Below w.heap.size w wr
def LSw (T : List Rq) (tx : Int) (r : Rq) (w : World) (wt i : Value) (wr : World) : Prop := ∃ k : Nat, i = .int .i64 k ∧ k ≤ T.length ∧ wt = .bool (anyB (fun j => match T[j]? with | some a => a.tx == tx && !a.g && obEq a.o r.o | none => false) k) ∧ Below w.heap.size w wr
set_option maxHeartbeats 4000000 in
set_option maxRecDepth 100000 in
theorem short_walk (v : Value) (ops : List Sop) (tx : Int) (w : World) (gl : Gl w) (h0 : OpsIn w v ops) : Calls Tryd.prog 4 #[v, .int .i64 tx] w fun e w' => e = .returned (.bool true) ∧ Below w.heap.size w w' := by
  have hpl := play_any v ops 60 (by decide) w gl h0
  have HINV := Lib.hid (play_inv (ops.take 60))
  obtain ⟨a0, c0, rfl, _⟩ := h0
  go_enter Tryd.func4, Tryd.ntmps4
  go_wp2_with fail
  refine hpl.mono ?_
  clear hpl
  rintro e wa ⟨rfl, ht, hs⟩
  generalize playT (ops.take 60) = T at *
  have HTA := Lib.hid ht
  have HSA := Lib.hid hs
  clear ht hs
  go_wp2_with fail
  refine (alive_any _ HSA.out.gl).mono ?_
  rintro e wb ⟨rfl, hs⟩
  have HTB := Lib.hid (HTA.out.below hs.b)
  have HSB := Lib.hid (HSA.out.to hs)
  clear hs
  go_wp2_with fail
  have hTl : T.length ≤ 500 := HINV.out.len
  refine (list_in _ w.heap.size T 500 _ HSB.out.gl HTB.out (by omega)).mono ?_
  rintro e wc ⟨la, lc, rfl, hr, hs⟩
  have HRC := Lib.hid hr
  have HTC := Lib.hid ((HTB.out.mono (G := fun b => w.heap.size ≤ b ∧ b < wb.heap.size) (fun b h1 h2 => ⟨h2, h1⟩)).below hs.b)
  have HSC := Lib.hid (HSB.out.to hs)
  clear hr hs
  go_wp2_with fail
  refine (endshort_any _ w.heap.size T 500 tx _ HSC.out.gl HTC.out (by omega)).mono ?_
  rintro e wd ⟨wv, rfl, h1, _, h2, h3⟩
  have HI1 := Lib.hid (HINV.out.endS_ tx)
  have HSW := Lib.hid (fun r (h : r ∈ (endS T tx).1) => @short_waited T tx r h)
  have HSH := Lib.hid (fun r (h : r ∈ T) => @short_has T HINV.out tx r h)
  generalize (endS T tx).1 = T1 at *
  have HTD := Lib.hid h1
  have HGD := Lib.hid h3
  have HRD := Lib.hid (HRC.out.keep h2 (fun q h1 h2 h3 => by have := h3.2; omega))
  have HBD := Lib.hid (show Below w.heap.size w wd from HSC.out.b.trans (h2.below HSC.out.b.size (fun i hi q => by omega)))
  clear h1 h2 h3
  have hTl1 : T1.length ≤ 500 := HI1.out.len
  go_wp2_with fail
  refine (list_in _ w.heap.size T1 500 _ HGD.out HTD.out (by omega)).mono ?_
  rintro e we ⟨na, nc, rfl, hr, hs⟩
  have HNE := Lib.hid hr
  have HTE := Lib.hid (HTD.out.below hs.b)
  have HRE := Lib.hid (HRD.out.below hs.b)
  have HGE := Lib.hid hs.gl
  have HBE := Lib.hid (HBD.out.trans (hs.b.mono HBD.out.size))
  clear hr hs HTA HSA HTB HSB HRC HTC HSC HTD HGD HRD HBD
  go_wp2_with fail
  go_loopw [8] (fun i wr => LSi T1.length we i wr) (fun i _ => T1.length - (intOf i).toNat)
  case atStart => exact ⟨0, rfl, Nat.zero_le _, Below.refl _ _⟩
  case round =>
    obtain ⟨k, rfl, hk, hb⟩ := hrel
    have HB := Lib.hid hb
    clear hb
    by_cases hlt : k < T1.length
    · have t1 : decide (k < T1.length) = true := decide_eq_true hlt
      have t2 : (k : Int) < T1.length := by omega
      obtain ⟨r, hr⟩ : ∃ r, T1[k]? = some r := ⟨T1[k], List.getElem?_eq_getElem hlt⟩
      obtain ⟨g, rfl, hreq⟩ := (HNE.out.below HB.out).get hr
      obtain ⟨x0, x1, x2, x3, x4, x5, x6, x7, x8⟩ := hreq
      have HR := Lib.hid hr
      clear hr
      by_cases htx : r.tx = tx
      · have HX := Lib.hid htx
        have t3 : (r.tx == tx) = true := by simpa using htx
        have t3' : decide (r.tx = tx) = true := decide_eq_true htx
        clear htx
        cases hs : r.s
        · rw [hs] at x8
          go_wp2_with fail
          go_roundw
          case rel => exact ⟨k + 1, by go_num, by omega, HB.out⟩
          case measure => simp [intOf]; omega
        · rw [hs] at x8
          cases hg : r.g
          · rw [hg] at x7
            go_wp2_with fail
            go_roundw
            case rel => exact ⟨k + 1, by go_num, by omega, HB.out⟩
            case measure => simp [intOf]; omega
          · rw [hg] at x7
            have HW := Lib.hid (HSW.out r (List.mem_of_getElem? HR.out) HX.out hs hg)
            clear hs hg
            go_wp2_with fail
            go_loopw [9, 10] (fun wt i wr => LSw T tx r we wt i wr) (fun _ i _ => T.length - (intOf i).toNat)
            case atStart => exact ⟨0, rfl, Nat.zero_le _, rfl, HB.out⟩
            case round =>
              obtain ⟨m, rfl, hm, rfl, hbi⟩ := hrel
              have HBi := Lib.hid hbi
              clear hbi x0 x1 x2 x3 x4 x5 x6 x7 x8
              obtain ⟨x0, x1, x2, x3, x4, x5, x6, x7, x8⟩ := (HNE.out.below HBi.out).elem HR.out
              clear x0 x6 x7 x8
              by_cases hml : m < T.length
              · have u1 : decide (m < T.length) = true := decide_eq_true hml
                have u2 : (m : Int) < T.length := by omega
                obtain ⟨a, ha⟩ : ∃ a, T[m]? = some a := ⟨T[m], List.getElem?_eq_getElem hml⟩
                obtain ⟨gw, rfl, hreqw⟩ := (HRE.out.below HBi.out).get ha
                obtain ⟨y0, y1, y2, y3, y4, y5, y6, y7, y8⟩ := hreqw
                have HA := Lib.hid ha
                clear ha y6 y8
                cases hwt : anyB (fun j => match T[j]? with | some a => a.tx == tx && !a.g && obEq a.o r.o | none => false) m
                rotate_left
                · have HWT := Lib.hid hwt
                  clear hwt
                  go_wp2_with fail
                  refine Go.Proofs.YtogcjflneedcfaaDoorW.PrintLast.start_ (n := 32) (S := fun v => v.cell? ⟨gw, m * 9, none⟩ = some (.int .i64 a.tx) ∧ v.cell? ⟨gw, m * 9 + 1, none⟩ = some (.int .i64 a.o.s) ∧ v.cell? ⟨gw, m * 9 + 2, none⟩ = some (.string a.o.t) ∧ v.cell? ⟨gw, m * 9 + 3, none⟩ = some (.string a.o.l) ∧ v.cell? ⟨gw, m * 9 + 4, none⟩ = some (.string a.o.u) ∧ v.cell? ⟨gw, m * 9 + 5, none⟩ = some (.bool a.o.e) ∧ v.cell? ⟨gw, m * 9 + 7, none⟩ = some (.bool a.g) ∧ v.cell? ⟨g, k * 9 + 1, none⟩ = some (.int .i64 r.o.s) ∧ v.cell? ⟨g, k * 9 + 2, none⟩ = some (.string r.o.t) ∧ v.cell? ⟨g, k * 9 + 3, none⟩ = some (.string r.o.l) ∧ v.cell? ⟨g, k * 9 + 4, none⟩ = some (.string r.o.u) ∧ v.cell? ⟨g, k * 9 + 5, none⟩ = some (.bool r.o.e)) (ds := [31]) #[false, false, false, false, false, false, false, false, false, false, false, false, false, false, false, false, false, false, false, false, false, false, false, false, false, false, false, false, false, false, false, false] (by kernel_rfl) rfl rfl ⟨y0, y1, y2, y3, y4, y5, y7, x1, x2, x3, x4, x5⟩ (fun hHeld => ?_)
                  refine Go.Proofs.YtogcjflneedcfaaDoorW.PrintLast.pure_ (i := 0) (N := some 62) (v := ?_) (a' := ?_) #[true, false, false, false, false, false, false, false, false, false, false, false, false, false, false, false, false, false, false, false, false, false, false, false, false, false, false, false, false, false, false, false] rfl rfl (by kernel_rfl) (fun _ _ _ h => h) (Or.inl ⟨by rfl, ?_⟩) ?_ ?_
                  rotate_left
                  · intro w'
                    go_simp
                    with_reducible rfl
                  rotate_left
                  · simp only [Act.put, List.setIfInBounds_toArray, List.set_cons_zero, List.set_cons_succ, Go.Proofs.YtogcjflneedcfaaDoorW.PrintLast.i64_w, Go.Proofs.YtogcjflneedcfaaDoorW.PrintLast.i32_w]
                    rfl
                  refine Go.Proofs.YtogcjflneedcfaaDoorW.PrintLast.pure_ (i := 1) (N := some 63) (v := ?_) (a' := ?_) #[true, true, false, false, false, false, false, false, false, false, false, false, false, false, false, false, false, false, false, false, false, false, false, false, false, false, false, false, false, false, false, false] rfl rfl (by kernel_rfl) (fun _ _ _ h => h) (Or.inl ⟨by rfl, ?_⟩) ?_ ?_
                  rotate_left
                  · intro w'
                    go_simp
                    with_reducible rfl
                  rotate_left
                  · simp only [Act.put, List.setIfInBounds_toArray, List.set_cons_zero, List.set_cons_succ, Go.Proofs.YtogcjflneedcfaaDoorW.PrintLast.i64_w, Go.Proofs.YtogcjflneedcfaaDoorW.PrintLast.i32_w]
                    rfl
                  refine Go.Proofs.YtogcjflneedcfaaDoorW.PrintLast.pure_ (i := 2) (N := some 64) (v := _) (a' := ?_) #[true, true, true, false, false, false, false, false, false, false, false, false, false, false, false, false, false, false, false, false, false, false, false, false, false, false, false, false, false, false, false, false] rfl rfl (by kernel_rfl) (fun _ _ _ h => h) (Or.inr ⟨by rfl, rfl⟩) ?_ ?_
                  rotate_left
                  · simp only [Act.put, List.setIfInBounds_toArray, List.set_cons_zero, List.set_cons_succ, Go.Proofs.YtogcjflneedcfaaDoorW.PrintLast.i64_w, Go.Proofs.YtogcjflneedcfaaDoorW.PrintLast.i32_w]
                    rfl
                  refine Go.Proofs.YtogcjflneedcfaaDoorW.PrintLast.pure_ (i := 3) (N := some 65) (v := _) (a' := ?_) #[true, true, true, true, false, false, false, false, false, false, false, false, false, false, false, false, false, false, false, false, false, false, false, false, false, false, false, false, false, false, false, false] rfl rfl (by kernel_rfl) (fun _ _ _ h => h) (Or.inr ⟨by rfl, rfl⟩) ?_ ?_
                  rotate_left
                  · simp only [Act.put, List.setIfInBounds_toArray, List.set_cons_zero, List.set_cons_succ, Go.Proofs.YtogcjflneedcfaaDoorW.PrintLast.i64_w, Go.Proofs.YtogcjflneedcfaaDoorW.PrintLast.i32_w]
                    rfl
                  refine Go.Proofs.YtogcjflneedcfaaDoorW.PrintLast.pure_ (i := 4) (N := some 66) (v := _) (a' := ?_) #[true, true, true, true, true, false, false, false, false, false, false, false, false, false, false, false, false, false, false, false, false, false, false, false, false, false, false, false, false, false, false, false] rfl rfl (by kernel_rfl) (fun _ _ _ h => h) (Or.inr ⟨by rfl, rfl⟩) ?_ ?_
                  rotate_left
                  · simp only [Act.put, List.setIfInBounds_toArray, List.set_cons_zero, List.set_cons_succ, Go.Proofs.YtogcjflneedcfaaDoorW.PrintLast.i64_w, Go.Proofs.YtogcjflneedcfaaDoorW.PrintLast.i32_w]
                    rfl
                  refine Go.Proofs.YtogcjflneedcfaaDoorW.PrintLast.pure_ (i := 5) (N := some 67) (v := _) (a' := ?_) #[true, true, true, true, true, true, false, false, false, false, false, false, false, false, false, false, false, false, false, false, false, false, false, false, false, false, false, false, false, false, false, false] rfl rfl (by kernel_rfl) (fun _ _ _ h => h) (Or.inr ⟨by rfl, rfl⟩) ?_ ?_
                  rotate_left
                  · simp only [Act.put, List.setIfInBounds_toArray, List.set_cons_zero, List.set_cons_succ, Go.Proofs.YtogcjflneedcfaaDoorW.PrintLast.i64_w, Go.Proofs.YtogcjflneedcfaaDoorW.PrintLast.i32_w]
                    rfl
                  refine Go.Proofs.YtogcjflneedcfaaDoorW.PrintLast.pure_ (i := 6) (N := some 68) (v := _) (a' := ?_) #[true, true, true, true, true, true, true, false, false, false, false, false, false, false, false, false, false, false, false, false, false, false, false, false, false, false, false, false, false, false, false, false] rfl rfl (by kernel_rfl) (fun _ _ _ h => h) (Or.inr ⟨by rfl, rfl⟩) ?_ ?_
                  rotate_left
                  · simp only [Act.put, List.setIfInBounds_toArray, List.set_cons_zero, List.set_cons_succ, Go.Proofs.YtogcjflneedcfaaDoorW.PrintLast.i64_w, Go.Proofs.YtogcjflneedcfaaDoorW.PrintLast.i32_w]
                    rfl
                  refine Go.Proofs.YtogcjflneedcfaaDoorW.PrintLast.pure_ (i := 7) (N := some 69) (v := _) (a' := ?_) #[true, true, true, true, true, true, true, true, false, false, false, false, false, false, false, false, false, false, false, false, false, false, false, false, false, false, false, false, false, false, false, false] rfl rfl (by kernel_rfl) (fun _ _ _ h => h) (Or.inr ⟨by rfl, rfl⟩) ?_ ?_
                  rotate_left
                  · simp only [Act.put, List.setIfInBounds_toArray, List.set_cons_zero, List.set_cons_succ, Go.Proofs.YtogcjflneedcfaaDoorW.PrintLast.i64_w, Go.Proofs.YtogcjflneedcfaaDoorW.PrintLast.i32_w]
                    rfl
                  refine Go.Proofs.YtogcjflneedcfaaDoorW.PrintLast.pure_ (i := 8) (N := some 70) (v := _) (a' := ?_) #[true, true, true, true, true, true, true, true, true, false, false, false, false, false, false, false, false, false, false, false, false, false, false, false, false, false, false, false, false, false, false, false] rfl rfl (by kernel_rfl) (fun _ _ _ h => h) (Or.inr ⟨by rfl, rfl⟩) ?_ ?_
                  rotate_left
                  · simp only [Act.put, List.setIfInBounds_toArray, List.set_cons_zero, List.set_cons_succ, Go.Proofs.YtogcjflneedcfaaDoorW.PrintLast.i64_w, Go.Proofs.YtogcjflneedcfaaDoorW.PrintLast.i32_w]
                    rfl
                  refine Go.Proofs.YtogcjflneedcfaaDoorW.PrintLast.pure_ (i := 9) (N := some 71) (v := _) (a' := ?_) #[true, true, true, true, true, true, true, true, true, true, false, false, false, false, false, false, false, false, false, false, false, false, false, false, false, false, false, false, false, false, false, false] rfl rfl (by kernel_rfl) (fun _ _ _ h => h) (Or.inr ⟨by rfl, rfl⟩) ?_ ?_
                  rotate_left
                  · simp only [Act.put, List.setIfInBounds_toArray, List.set_cons_zero, List.set_cons_succ, Go.Proofs.YtogcjflneedcfaaDoorW.PrintLast.i64_w, Go.Proofs.YtogcjflneedcfaaDoorW.PrintLast.i32_w]
                    rfl
                  refine Go.Proofs.YtogcjflneedcfaaDoorW.PrintLast.pure_ (i := 10) (N := some 72) (v := _) (a' := ?_) #[true, true, true, true, true, true, true, true, true, true, true, false, false, false, false, false, false, false, false, false, false, false, false, false, false, false, false, false, false, false, false, false] rfl rfl (by kernel_rfl) (fun _ _ _ h => h) (Or.inr ⟨by rfl, rfl⟩) ?_ ?_
                  rotate_left
                  · simp only [Act.put, List.setIfInBounds_toArray, List.set_cons_zero, List.set_cons_succ, Go.Proofs.YtogcjflneedcfaaDoorW.PrintLast.i64_w, Go.Proofs.YtogcjflneedcfaaDoorW.PrintLast.i32_w]
                    rfl
                  refine Go.Proofs.YtogcjflneedcfaaDoorW.PrintLast.pure_ (i := 11) (N := some 73) (v := _) (a' := ?_) #[true, true, true, true, true, true, true, true, true, true, true, true, false, false, false, false, false, false, false, false, false, false, false, false, false, false, false, false, false, false, false, false] rfl rfl (by kernel_rfl) (fun _ _ _ h => h) (Or.inr ⟨by rfl, rfl⟩) ?_ ?_
                  rotate_left
                  · simp only [Act.put, List.setIfInBounds_toArray, List.set_cons_zero, List.set_cons_succ, Go.Proofs.YtogcjflneedcfaaDoorW.PrintLast.i64_w, Go.Proofs.YtogcjflneedcfaaDoorW.PrintLast.i32_w]
                    rfl
                  refine Go.Proofs.YtogcjflneedcfaaDoorW.PrintLast.pure_ (i := 12) (N := some 74) (v := _) (a' := ?_) #[true, true, true, true, true, true, true, true, true, true, true, true, true, false, false, false, false, false, false, false, false, false, false, false, false, false, false, false, false, false, false, false] rfl rfl (by kernel_rfl) (fun _ _ _ h => h) (Or.inr ⟨by rfl, rfl⟩) ?_ ?_
                  rotate_left
                  · simp only [Act.put, List.setIfInBounds_toArray, List.set_cons_zero, List.set_cons_succ, Go.Proofs.YtogcjflneedcfaaDoorW.PrintLast.i64_w, Go.Proofs.YtogcjflneedcfaaDoorW.PrintLast.i32_w]
                    rfl
                  refine Go.Proofs.YtogcjflneedcfaaDoorW.PrintLast.pure_ (i := 13) (N := some 75) (v := _) (a' := ?_) #[true, true, true, true, true, true, true, true, true, true, true, true, true, true, false, false, false, false, false, false, false, false, false, false, false, false, false, false, false, false, false, false] rfl rfl (by kernel_rfl) (fun _ _ _ h => h) (Or.inr ⟨by rfl, rfl⟩) ?_ ?_
                  rotate_left
                  · simp only [Act.put, List.setIfInBounds_toArray, List.set_cons_zero, List.set_cons_succ, Go.Proofs.YtogcjflneedcfaaDoorW.PrintLast.i64_w, Go.Proofs.YtogcjflneedcfaaDoorW.PrintLast.i32_w]
                    rfl
                  refine Go.Proofs.YtogcjflneedcfaaDoorW.PrintLast.pure_ (i := 14) (N := some 76) (v := _) (a' := ?_) #[true, true, true, true, true, true, true, true, true, true, true, true, true, true, true, false, false, false, false, false, false, false, false, false, false, false, false, false, false, false, false, false] rfl rfl (by kernel_rfl) (fun _ _ _ h => h) (Or.inr ⟨by rfl, rfl⟩) ?_ ?_
                  rotate_left
                  · simp only [Act.put, List.setIfInBounds_toArray, List.set_cons_zero, List.set_cons_succ, Go.Proofs.YtogcjflneedcfaaDoorW.PrintLast.i64_w, Go.Proofs.YtogcjflneedcfaaDoorW.PrintLast.i32_w]
                    rfl
                  refine Go.Proofs.YtogcjflneedcfaaDoorW.PrintLast.pure_ (i := 15) (N := some 77) (v := _) (a' := ?_) #[true, true, true, true, true, true, true, true, true, true, true, true, true, true, true, true, false, false, false, false, false, false, false, false, false, false, false, false, false, false, false, false] rfl rfl (by kernel_rfl) (fun _ _ _ h => h) (Or.inr ⟨by rfl, rfl⟩) ?_ ?_
                  rotate_left
                  · simp only [Act.put, List.setIfInBounds_toArray, List.set_cons_zero, List.set_cons_succ, Go.Proofs.YtogcjflneedcfaaDoorW.PrintLast.i64_w, Go.Proofs.YtogcjflneedcfaaDoorW.PrintLast.i32_w]
                    rfl
                  refine Go.Proofs.YtogcjflneedcfaaDoorW.PrintLast.pure_ (i := 16) (N := some 78) (v := _) (a' := ?_) #[true, true, true, true, true, true, true, true, true, true, true, true, true, true, true, true, true, false, false, false, false, false, false, false, false, false, false, false, false, false, false, false] rfl rfl (by kernel_rfl) (fun _ _ _ h => h) (Or.inr ⟨by rfl, rfl⟩) ?_ ?_
                  rotate_left
                  · simp only [Act.put, List.setIfInBounds_toArray, List.set_cons_zero, List.set_cons_succ, Go.Proofs.YtogcjflneedcfaaDoorW.PrintLast.i64_w, Go.Proofs.YtogcjflneedcfaaDoorW.PrintLast.i32_w]
                    rfl
                  refine Go.Proofs.YtogcjflneedcfaaDoorW.PrintLast.pure_ (i := 17) (N := some 79) (v := _) (a' := ?_) #[true, true, true, true, true, true, true, true, true, true, true, true, true, true, true, true, true, true, false, false, false, false, false, false, false, false, false, false, false, false, false, false] rfl rfl (by kernel_rfl) (fun _ _ _ h => h) (Or.inr ⟨by rfl, rfl⟩) ?_ ?_
                  rotate_left
                  · simp only [Act.put, List.setIfInBounds_toArray, List.set_cons_zero, List.set_cons_succ, Go.Proofs.YtogcjflneedcfaaDoorW.PrintLast.i64_w, Go.Proofs.YtogcjflneedcfaaDoorW.PrintLast.i32_w]
                    rfl
                  refine Go.Proofs.YtogcjflneedcfaaDoorW.PrintLast.pure_ (i := 18) (N := some 80) (v := _) (a' := ?_) #[true, true, true, true, true, true, true, true, true, true, true, true, true, true, true, true, true, true, true, false, false, false, false, false, false, false, false, false, false, false, false, false] rfl rfl (by kernel_rfl) (fun _ _ _ h => h) (Or.inr ⟨by rfl, rfl⟩) ?_ ?_
                  rotate_left
                  · simp only [Act.put, List.setIfInBounds_toArray, List.set_cons_zero, List.set_cons_succ, Go.Proofs.YtogcjflneedcfaaDoorW.PrintLast.i64_w, Go.Proofs.YtogcjflneedcfaaDoorW.PrintLast.i32_w]
                    rfl
                  refine Go.Proofs.YtogcjflneedcfaaDoorW.PrintLast.pure_ (i := 19) (N := some 81) (v := _) (a' := ?_) #[true, true, true, true, true, true, true, true, true, true, true, true, true, true, true, true, true, true, true, true, false, false, false, false, false, false, false, false, false, false, false, false] rfl rfl (by kernel_rfl) (fun _ _ _ h => h) (Or.inr ⟨by rfl, rfl⟩) ?_ ?_
                  rotate_left
                  · simp only [Act.put, List.setIfInBounds_toArray, List.set_cons_zero, List.set_cons_succ, Go.Proofs.YtogcjflneedcfaaDoorW.PrintLast.i64_w, Go.Proofs.YtogcjflneedcfaaDoorW.PrintLast.i32_w]
                    rfl
                  refine Go.Proofs.YtogcjflneedcfaaDoorW.PrintLast.pure_ (i := 20) (N := some 82) (v := _) (a' := ?_) #[true, true, true, true, true, true, true, true, true, true, true, true, true, true, true, true, true, true, true, true, true, false, false, false, false, false, false, false, false, false, false, false] rfl rfl (by kernel_rfl) (fun _ _ _ h => h) (Or.inr ⟨by rfl, rfl⟩) ?_ ?_
                  rotate_left
                  · simp only [Act.put, List.setIfInBounds_toArray, List.set_cons_zero, List.set_cons_succ, Go.Proofs.YtogcjflneedcfaaDoorW.PrintLast.i64_w, Go.Proofs.YtogcjflneedcfaaDoorW.PrintLast.i32_w]
                    rfl
                  refine Go.Proofs.YtogcjflneedcfaaDoorW.PrintLast.pure_ (i := 21) (N := some 83) (v := _) (a' := ?_) #[true, true, true, true, true, true, true, true, true, true, true, true, true, true, true, true, true, true, true, true, true, true, false, false, false, false, false, false, false, false, false, false] rfl rfl (by kernel_rfl) (fun _ _ _ h => h) (Or.inr ⟨by rfl, rfl⟩) ?_ ?_
                  rotate_left
                  · simp only [Act.put, List.setIfInBounds_toArray, List.set_cons_zero, List.set_cons_succ, Go.Proofs.YtogcjflneedcfaaDoorW.PrintLast.i64_w, Go.Proofs.YtogcjflneedcfaaDoorW.PrintLast.i32_w]
                    rfl
                  refine Go.Proofs.YtogcjflneedcfaaDoorW.PrintLast.pure_ (i := 22) (N := some 84) (v := _) (a' := ?_) #[true, true, true, true, true, true, true, true, true, true, true, true, true, true, true, true, true, true, true, true, true, true, true, false, false, false, false, false, false, false, false, false] rfl rfl (by kernel_rfl) (fun _ _ _ h => h) (Or.inr ⟨by rfl, rfl⟩) ?_ ?_
                  rotate_left
                  · simp only [Act.put, List.setIfInBounds_toArray, List.set_cons_zero, List.set_cons_succ, Go.Proofs.YtogcjflneedcfaaDoorW.PrintLast.i64_w, Go.Proofs.YtogcjflneedcfaaDoorW.PrintLast.i32_w]
                    rfl
                  refine Go.Proofs.YtogcjflneedcfaaDoorW.PrintLast.pure_ (i := 23) (N := some 85) (v := _) (a' := ?_) #[true, true, true, true, true, true, true, true, true, true, true, true, true, true, true, true, true, true, true, true, true, true, true, true, false, false, false, false, false, false, false, false] rfl rfl (by kernel_rfl) (fun _ _ _ h => h) (Or.inr ⟨by rfl, rfl⟩) ?_ ?_
                  rotate_left
                  · simp only [Act.put, List.setIfInBounds_toArray, List.set_cons_zero, List.set_cons_succ, Go.Proofs.YtogcjflneedcfaaDoorW.PrintLast.i64_w, Go.Proofs.YtogcjflneedcfaaDoorW.PrintLast.i32_w]
                    rfl
                  refine Go.Proofs.YtogcjflneedcfaaDoorW.PrintLast.pure_ (i := 24) (N := some 86) (v := _) (a' := ?_) #[true, true, true, true, true, true, true, true, true, true, true, true, true, true, true, true, true, true, true, true, true, true, true, true, true, false, false, false, false, false, false, false] rfl rfl (by kernel_rfl) (fun _ _ _ h => h) (Or.inr ⟨by rfl, rfl⟩) ?_ ?_
                  rotate_left
                  · simp only [Act.put, List.setIfInBounds_toArray, List.set_cons_zero, List.set_cons_succ, Go.Proofs.YtogcjflneedcfaaDoorW.PrintLast.i64_w, Go.Proofs.YtogcjflneedcfaaDoorW.PrintLast.i32_w]
                    rfl
                  refine Go.Proofs.YtogcjflneedcfaaDoorW.PrintLast.pure_ (i := 25) (N := some 87) (v := _) (a' := ?_) #[true, true, true, true, true, true, true, true, true, true, true, true, true, true, true, true, true, true, true, true, true, true, true, true, true, true, false, false, false, false, false, false] rfl rfl (by kernel_rfl) (fun _ _ _ h => h) (Or.inr ⟨by rfl, rfl⟩) ?_ ?_
                  rotate_left
                  · simp only [Act.put, List.setIfInBounds_toArray, List.set_cons_zero, List.set_cons_succ, Go.Proofs.YtogcjflneedcfaaDoorW.PrintLast.i64_w, Go.Proofs.YtogcjflneedcfaaDoorW.PrintLast.i32_w]
                    rfl
                  refine Go.Proofs.YtogcjflneedcfaaDoorW.PrintLast.pure_ (i := 26) (N := some 88) (v := _) (a' := ?_) #[true, true, true, true, true, true, true, true, true, true, true, true, true, true, true, true, true, true, true, true, true, true, true, true, true, true, true, false, false, false, false, false] rfl rfl (by kernel_rfl) (fun _ _ _ h => h) (Or.inr ⟨by rfl, rfl⟩) ?_ ?_
                  rotate_left
                  · simp only [Act.put, List.setIfInBounds_toArray, List.set_cons_zero, List.set_cons_succ, Go.Proofs.YtogcjflneedcfaaDoorW.PrintLast.i64_w, Go.Proofs.YtogcjflneedcfaaDoorW.PrintLast.i32_w]
                    rfl
                  refine Go.Proofs.YtogcjflneedcfaaDoorW.PrintLast.pure_ (i := 27) (N := some 89) (v := _) (a' := ?_) #[true, true, true, true, true, true, true, true, true, true, true, true, true, true, true, true, true, true, true, true, true, true, true, true, true, true, true, true, false, false, false, false] rfl rfl (by kernel_rfl) (fun _ _ _ h => h) (Or.inr ⟨by rfl, rfl⟩) ?_ ?_
                  rotate_left
                  · simp only [Act.put, List.setIfInBounds_toArray, List.set_cons_zero, List.set_cons_succ, Go.Proofs.YtogcjflneedcfaaDoorW.PrintLast.i64_w, Go.Proofs.YtogcjflneedcfaaDoorW.PrintLast.i32_w]
                    rfl
                  refine Go.Proofs.YtogcjflneedcfaaDoorW.PrintLast.pure_ (i := 28) (N := some 90) (v := _) (a' := ?_) #[true, true, true, true, true, true, true, true, true, true, true, true, true, true, true, true, true, true, true, true, true, true, true, true, true, true, true, true, true, false, false, false] rfl rfl (by kernel_rfl) (fun _ _ _ h => h) (Or.inr ⟨by rfl, rfl⟩) ?_ ?_
                  rotate_left
                  · simp only [Act.put, List.setIfInBounds_toArray, List.set_cons_zero, List.set_cons_succ, Go.Proofs.YtogcjflneedcfaaDoorW.PrintLast.i64_w, Go.Proofs.YtogcjflneedcfaaDoorW.PrintLast.i32_w]
                    rfl
                  refine Go.Proofs.YtogcjflneedcfaaDoorW.PrintLast.pure_ (i := 29) (N := some 91) (v := _) (a' := ?_) #[true, true, true, true, true, true, true, true, true, true, true, true, true, true, true, true, true, true, true, true, true, true, true, true, true, true, true, true, true, true, false, false] rfl rfl (by kernel_rfl) (fun _ _ _ h => h) (Or.inr ⟨by rfl, rfl⟩) ?_ ?_
                  rotate_left
                  · simp only [Act.put, List.setIfInBounds_toArray, List.set_cons_zero, List.set_cons_succ, Go.Proofs.YtogcjflneedcfaaDoorW.PrintLast.i64_w, Go.Proofs.YtogcjflneedcfaaDoorW.PrintLast.i32_w]
                    rfl
                  refine Go.Proofs.YtogcjflneedcfaaDoorW.PrintLast.pure_ (i := 30) (N := some 92) (v := ?_) (a' := ?_) #[true, true, true, true, true, true, true, true, true, true, true, true, true, true, true, true, true, true, true, true, true, true, true, true, true, true, true, true, true, true, true, false] rfl rfl (by kernel_rfl) (fun _ _ _ h => h) (Or.inl ⟨by rfl, ?_⟩) ?_ ?_
                  rotate_left
                  · intro w'
                    go_simp
                    with_reducible rfl
                  rotate_left
                  · simp only [Act.put, List.setIfInBounds_toArray, List.set_cons_zero, List.set_cons_succ, Go.Proofs.YtogcjflneedcfaaDoorW.PrintLast.i64_w, Go.Proofs.YtogcjflneedcfaaDoorW.PrintLast.i32_w]
                    rfl
                  refine Go.Proofs.YtogcjflneedcfaaDoorW.PrintLast.pure_ (i := 31) (N := some 9) (v := ?_) (a' := ?_) #[true, true, true, true, true, true, true, true, true, true, true, true, true, true, true, true, true, true, true, true, true, true, true, true, true, true, true, true, true, true, true, true] rfl rfl (by kernel_rfl) (fun _ _ _ h => h) (Or.inl ⟨by rfl, ?_⟩) ?_ ?_
                  rotate_left
                  · intro w'
                    go_simp
                    with_reducible rfl
                  rotate_left
                  · simp only [Act.put, List.setIfInBounds_toArray, List.set_cons_zero, List.set_cons_succ, Go.Proofs.YtogcjflneedcfaaDoorW.PrintLast.i64_w, Go.Proofs.YtogcjflneedcfaaDoorW.PrintLast.i32_w]
                    rfl
                  refine Go.Proofs.YtogcjflneedcfaaDoorW.PrintLast.done_ (by kernel_rfl) ?_
                  clear hHeld x1 x2 x3 x4 x5 y0 y1 y2 y3 y4 y5 y7
                  go_wp2_with fail
                  go_roundw
                  case rel => exact ⟨m + 1, by go_num, by omega, by rw [anyB_succ]; simp only [HA.out]; rw [HWT.out]; rfl, HBi.out.drew⟩
                  case measure => simp [intOf]; omega
                · have HWT := Lib.hid hwt
                  clear hwt
                  by_cases hax : a.tx = tx
                  rotate_left
                  · have u3 : (a.tx == tx) = false := by simpa using hax
                    have HQ2 := Lib.hid u3
                    clear hax
                    go_wp2_with fail
                    refine Go.Proofs.YtogcjflneedcfaaDoorW.PrintLast.start_ (n := 32) (S := fun v => v.cell? ⟨gw, m * 9, none⟩ = some (.int .i64 a.tx) ∧ v.cell? ⟨gw, m * 9 + 1, none⟩ = some (.int .i64 a.o.s) ∧ v.cell? ⟨gw, m * 9 + 2, none⟩ = some (.string a.o.t) ∧ v.cell? ⟨gw, m * 9 + 3, none⟩ = some (.string a.o.l) ∧ v.cell? ⟨gw, m * 9 + 4, none⟩ = some (.string a.o.u) ∧ v.cell? ⟨gw, m * 9 + 5, none⟩ = some (.bool a.o.e) ∧ v.cell? ⟨gw, m * 9 + 7, none⟩ = some (.bool a.g) ∧ v.cell? ⟨g, k * 9 + 1, none⟩ = some (.int .i64 r.o.s) ∧ v.cell? ⟨g, k * 9 + 2, none⟩ = some (.string r.o.t) ∧ v.cell? ⟨g, k * 9 + 3, none⟩ = some (.string r.o.l) ∧ v.cell? ⟨g, k * 9 + 4, none⟩ = some (.string r.o.u) ∧ v.cell? ⟨g, k * 9 + 5, none⟩ = some (.bool r.o.e)) (ds := [31]) #[false, false, false, false, false, false, false, false, false, false, false, false, false, false, false, false, false, false, false, false, false, false, false, false, false, false, false, false, false, false, false, false] (by kernel_rfl) rfl rfl ⟨y0, y1, y2, y3, y4, y5, y7, x1, x2, x3, x4, x5⟩ (fun hHeld => ?_)
                    refine Go.Proofs.YtogcjflneedcfaaDoorW.PrintLast.pure_ (i := 0) (N := some 62) (v := ?_) (a' := ?_) #[true, false, false, false, false, false, false, false, false, false, false, false, false, false, false, false, false, false, false, false, false, false, false, false, false, false, false, false, false, false, false, false] rfl rfl (by kernel_rfl) (fun _ _ _ h => h) (Or.inl ⟨by rfl, ?_⟩) ?_ ?_
                    rotate_left
                    · intro w'
                      go_simp
                      with_reducible rfl
                    rotate_left
                    · simp only [Act.put, List.setIfInBounds_toArray, List.set_cons_zero, List.set_cons_succ, Go.Proofs.YtogcjflneedcfaaDoorW.PrintLast.i64_w, Go.Proofs.YtogcjflneedcfaaDoorW.PrintLast.i32_w]
                      rfl
                    refine Go.Proofs.YtogcjflneedcfaaDoorW.PrintLast.pure_ (i := 1) (N := some 63) (v := ?_) (a' := ?_) #[true, true, false, false, false, false, false, false, false, false, false, false, false, false, false, false, false, false, false, false, false, false, false, false, false, false, false, false, false, false, false, false] rfl rfl (by kernel_rfl) (fun _ _ _ h => h) (Or.inl ⟨by rfl, ?_⟩) ?_ ?_
                    rotate_left
                    · intro w'
                      go_simp
                      with_reducible rfl
                    rotate_left
                    · simp only [Act.put, List.setIfInBounds_toArray, List.set_cons_zero, List.set_cons_succ, Go.Proofs.YtogcjflneedcfaaDoorW.PrintLast.i64_w, Go.Proofs.YtogcjflneedcfaaDoorW.PrintLast.i32_w]
                      rfl
                    refine Go.Proofs.YtogcjflneedcfaaDoorW.PrintLast.pure_ (i := 2) (N := some 64) (v := ?_) (a' := ?_) #[true, true, true, false, false, false, false, false, false, false, false, false, false, false, false, false, false, false, false, false, false, false, false, false, false, false, false, false, false, false, false, false] rfl rfl (by kernel_rfl) (fun _ _ _ h => h) (Or.inl ⟨by rfl, ?_⟩) ?_ ?_
                    rotate_left
                    · intro w'
                      go_simp
                      with_reducible rfl
                    rotate_left
                    · simp only [Act.put, List.setIfInBounds_toArray, List.set_cons_zero, List.set_cons_succ, Go.Proofs.YtogcjflneedcfaaDoorW.PrintLast.i64_w, Go.Proofs.YtogcjflneedcfaaDoorW.PrintLast.i32_w]
                      rfl
                    refine Go.Proofs.YtogcjflneedcfaaDoorW.PrintLast.pure_ (i := 3) (N := some 65) (v := ?_) (a' := ?_) #[true, true, true, true, false, false, false, false, false, false, false, false, false, false, false, false, false, false, false, false, false, false, false, false, false, false, false, false, false, false, false, false] rfl rfl (by kernel_rfl) (fun _ _ _ h => h) (Or.inl ⟨by rfl, ?_⟩) ?_ ?_
                    rotate_left
                    · intro w'
                      go_simp
                      with_reducible rfl
                    rotate_left
                    · simp only [Act.put, List.setIfInBounds_toArray, List.set_cons_zero, List.set_cons_succ, Go.Proofs.YtogcjflneedcfaaDoorW.PrintLast.i64_w, Go.Proofs.YtogcjflneedcfaaDoorW.PrintLast.i32_w]
                      rfl
                    refine Go.Proofs.YtogcjflneedcfaaDoorW.PrintLast.pure_ (i := 4) (N := some 66) (v := ?_) (a' := ?_) #[true, true, true, true, true, false, false, false, false, false, false, false, false, false, false, false, false, false, false, false, false, false, false, false, false, false, false, false, false, false, false, false] rfl rfl (by kernel_rfl) (fun _ _ _ h => h) (Or.inl ⟨by rfl, ?_⟩) ?_ ?_
                    rotate_left
                    · intro w'
                      go_simp
                      with_reducible rfl
                    rotate_left
                    · simp only [Act.put, List.setIfInBounds_toArray, List.set_cons_zero, List.set_cons_succ, Go.Proofs.YtogcjflneedcfaaDoorW.PrintLast.i64_w, Go.Proofs.YtogcjflneedcfaaDoorW.PrintLast.i32_w]
                      rfl
                    refine Go.Proofs.YtogcjflneedcfaaDoorW.PrintLast.pure_ (i := 5) (N := some 67) (v := ?_) (a' := ?_) #[true, true, true, true, true, true, false, false, false, false, false, false, false, false, false, false, false, false, false, false, false, false, false, false, false, false, false, false, false, false, false, false] rfl rfl (by kernel_rfl) (fun _ _ _ h => h) (Or.inl ⟨by rfl, ?_⟩) ?_ ?_
                    rotate_left
                    · intro w'
                      go_simp
                      with_reducible rfl
                    rotate_left
                    · simp only [Act.put, List.setIfInBounds_toArray, List.set_cons_zero, List.set_cons_succ, Go.Proofs.YtogcjflneedcfaaDoorW.PrintLast.i64_w, Go.Proofs.YtogcjflneedcfaaDoorW.PrintLast.i32_w]
                      rfl
                    refine Go.Proofs.YtogcjflneedcfaaDoorW.PrintLast.take_ (i := 6) (N := some 68) (v := ?_) (a' := ?_) #[true, true, true, true, true, true, true, false, false, false, false, false, false, false, false, false, false, false, false, false, false, false, false, false, false, false, false, false, false, false, false, false] rfl rfl (by kernel_rfl) (fun _ _ _ h => h) (Or.inl ⟨by rfl, ?_⟩) hHeld ?_ ?_
                    rotate_left
                    · rintro w' ⟨s0, s1, s2, s3, s4, s5, s7, t1, t2, t3, t4, t5⟩
                      go_simp
                      with_reducible rfl
                    rotate_left
                    · simp only [Act.put, List.setIfInBounds_toArray, List.set_cons_zero, List.set_cons_succ, Go.Proofs.YtogcjflneedcfaaDoorW.PrintLast.i64_w, Go.Proofs.YtogcjflneedcfaaDoorW.PrintLast.i32_w]
                      rfl
                    refine Go.Proofs.YtogcjflneedcfaaDoorW.PrintLast.pure_ (i := 7) (N := some 69) (v := ?_) (a' := ?_) #[true, true, true, true, true, true, true, true, false, false, false, false, false, false, false, false, false, false, false, false, false, false, false, false, false, false, false, false, false, false, false, false] rfl rfl (by kernel_rfl) (fun _ _ _ h => h) (Or.inl ⟨by rfl, ?_⟩) ?_ ?_
                    rotate_left
                    · intro w'
                      go_simp
                      with_reducible rfl
                    rotate_left
                    · simp only [Act.put, List.setIfInBounds_toArray, List.set_cons_zero, List.set_cons_succ, Go.Proofs.YtogcjflneedcfaaDoorW.PrintLast.i64_w, Go.Proofs.YtogcjflneedcfaaDoorW.PrintLast.i32_w]
                      rfl
                    refine Go.Proofs.YtogcjflneedcfaaDoorW.PrintLast.pure_ (i := 8) (N := some 70) (v := ?_) (a' := ?_) #[true, true, true, true, true, true, true, true, true, false, false, false, false, false, false, false, false, false, false, false, false, false, false, false, false, false, false, false, false, false, false, false] rfl rfl (by kernel_rfl) (fun _ _ _ h => h) (Or.inl ⟨by rfl, ?_⟩) ?_ ?_
                    rotate_left
                    · intro w'
                      go_simp
                      with_reducible rfl
                    rotate_left
                    · simp only [Act.put, List.setIfInBounds_toArray, List.set_cons_zero, List.set_cons_succ, Go.Proofs.YtogcjflneedcfaaDoorW.PrintLast.i64_w, Go.Proofs.YtogcjflneedcfaaDoorW.PrintLast.i32_w]
                      rfl
                    refine Go.Proofs.YtogcjflneedcfaaDoorW.PrintLast.pure_ (i := 9) (N := some 71) (v := ?_) (a' := ?_) #[true, true, true, true, true, true, true, true, true, true, false, false, false, false, false, false, false, false, false, false, false, false, false, false, false, false, false, false, false, false, false, false] rfl rfl (by kernel_rfl) (fun _ _ _ h => h) (Or.inl ⟨by rfl, ?_⟩) ?_ ?_
                    rotate_left
                    · intro w'
                      go_simp
                      with_reducible rfl
                    rotate_left
                    · simp only [Act.put, List.setIfInBounds_toArray, List.set_cons_zero, List.set_cons_succ, Go.Proofs.YtogcjflneedcfaaDoorW.PrintLast.i64_w, Go.Proofs.YtogcjflneedcfaaDoorW.PrintLast.i32_w]
                      rfl
                    refine Go.Proofs.YtogcjflneedcfaaDoorW.PrintLast.pure_ (i := 10) (N := some 72) (v := _) (a' := ?_) #[true, true, true, true, true, true, true, true, true, true, true, false, false, false, false, false, false, false, false, false, false, false, false, false, false, false, false, false, false, false, false, false] rfl rfl (by kernel_rfl) (fun _ _ _ h => h) (Or.inr ⟨by rfl, rfl⟩) ?_ ?_
                    rotate_left
                    · simp only [Act.put, List.setIfInBounds_toArray, List.set_cons_zero, List.set_cons_succ, Go.Proofs.YtogcjflneedcfaaDoorW.PrintLast.i64_w, Go.Proofs.YtogcjflneedcfaaDoorW.PrintLast.i32_w]
                      rfl
                    refine Go.Proofs.YtogcjflneedcfaaDoorW.PrintLast.pure_ (i := 11) (N := some 73) (v := _) (a' := ?_) #[true, true, true, true, true, true, true, true, true, true, true, true, false, false, false, false, false, false, false, false, false, false, false, false, false, false, false, false, false, false, false, false] rfl rfl (by kernel_rfl) (fun _ _ _ h => h) (Or.inr ⟨by rfl, rfl⟩) ?_ ?_
                    rotate_left
                    · simp only [Act.put, List.setIfInBounds_toArray, List.set_cons_zero, List.set_cons_succ, Go.Proofs.YtogcjflneedcfaaDoorW.PrintLast.i64_w, Go.Proofs.YtogcjflneedcfaaDoorW.PrintLast.i32_w]
                      rfl
                    refine Go.Proofs.YtogcjflneedcfaaDoorW.PrintLast.pure_ (i := 12) (N := some 74) (v := _) (a' := ?_) #[true, true, true, true, true, true, true, true, true, true, true, true, true, false, false, false, false, false, false, false, false, false, false, false, false, false, false, false, false, false, false, false] rfl rfl (by kernel_rfl) (fun _ _ _ h => h) (Or.inr ⟨by rfl, rfl⟩) ?_ ?_
                    rotate_left
                    · simp only [Act.put, List.setIfInBounds_toArray, List.set_cons_zero, List.set_cons_succ, Go.Proofs.YtogcjflneedcfaaDoorW.PrintLast.i64_w, Go.Proofs.YtogcjflneedcfaaDoorW.PrintLast.i32_w]
                      rfl
                    refine Go.Proofs.YtogcjflneedcfaaDoorW.PrintLast.pure_ (i := 13) (N := some 75) (v := _) (a' := ?_) #[true, true, true, true, true, true, true, true, true, true, true, true, true, true, false, false, false, false, false, false, false, false, false, false, false, false, false, false, false, false, false, false] rfl rfl (by kernel_rfl) (fun _ _ _ h => h) (Or.inr ⟨by rfl, rfl⟩) ?_ ?_
                    rotate_left
                    · simp only [Act.put, List.setIfInBounds_toArray, List.set_cons_zero, List.set_cons_succ, Go.Proofs.YtogcjflneedcfaaDoorW.PrintLast.i64_w, Go.Proofs.YtogcjflneedcfaaDoorW.PrintLast.i32_w]
                      rfl
                    refine Go.Proofs.YtogcjflneedcfaaDoorW.PrintLast.pure_ (i := 14) (N := some 76) (v := _) (a' := ?_) #[true, true, true, true, true, true, true, true, true, true, true, true, true, true, true, false, false, false, false, false, false, false, false, false, false, false, false, false, false, false, false, false] rfl rfl (by kernel_rfl) (fun _ _ _ h => h) (Or.inr ⟨by rfl, rfl⟩) ?_ ?_
                    rotate_left
                    · simp only [Act.put, List.setIfInBounds_toArray, List.set_cons_zero, List.set_cons_succ, Go.Proofs.YtogcjflneedcfaaDoorW.PrintLast.i64_w, Go.Proofs.YtogcjflneedcfaaDoorW.PrintLast.i32_w]
                      rfl
                    refine Go.Proofs.YtogcjflneedcfaaDoorW.PrintLast.pure_ (i := 15) (N := some 77) (v := _) (a' := ?_) #[true, true, true, true, true, true, true, true, true, true, true, true, true, true, true, true, false, false, false, false, false, false, false, false, false, false, false, false, false, false, false, false] rfl rfl (by kernel_rfl) (fun _ _ _ h => h) (Or.inr ⟨by rfl, rfl⟩) ?_ ?_
                    rotate_left
                    · simp only [Act.put, List.setIfInBounds_toArray, List.set_cons_zero, List.set_cons_succ, Go.Proofs.YtogcjflneedcfaaDoorW.PrintLast.i64_w, Go.Proofs.YtogcjflneedcfaaDoorW.PrintLast.i32_w]
                      rfl
                    refine Go.Proofs.YtogcjflneedcfaaDoorW.PrintLast.pure_ (i := 16) (N := some 78) (v := ?_) (a' := ?_) #[true, true, true, true, true, true, true, true, true, true, true, true, true, true, true, true, true, false, false, false, false, false, false, false, false, false, false, false, false, false, false, false] rfl rfl (by kernel_rfl) (fun _ _ _ h => h) (Or.inl ⟨by rfl, ?_⟩) ?_ ?_
                    rotate_left
                    · intro w'
                      go_simp
                      with_reducible rfl
                    rotate_left
                    · simp only [Act.put, List.setIfInBounds_toArray, List.set_cons_zero, List.set_cons_succ, Go.Proofs.YtogcjflneedcfaaDoorW.PrintLast.i64_w, Go.Proofs.YtogcjflneedcfaaDoorW.PrintLast.i32_w]
                      rfl
                    refine Go.Proofs.YtogcjflneedcfaaDoorW.PrintLast.pure_ (i := 17) (N := some 79) (v := ?_) (a' := ?_) #[true, true, true, true, true, true, true, true, true, true, true, true, true, true, true, true, true, true, false, false, false, false, false, false, false, false, false, false, false, false, false, false] rfl rfl (by kernel_rfl) (fun _ _ _ h => h) (Or.inl ⟨by rfl, ?_⟩) ?_ ?_
                    rotate_left
                    · intro w'
                      go_simp
                      with_reducible rfl
                    rotate_left
                    · simp only [Act.put, List.setIfInBounds_toArray, List.set_cons_zero, List.set_cons_succ, Go.Proofs.YtogcjflneedcfaaDoorW.PrintLast.i64_w, Go.Proofs.YtogcjflneedcfaaDoorW.PrintLast.i32_w]
                      rfl
                    refine Go.Proofs.YtogcjflneedcfaaDoorW.PrintLast.pure_ (i := 18) (N := some 80) (v := _) (a' := ?_) #[true, true, true, true, true, true, true, true, true, true, true, true, true, true, true, true, true, true, true, false, false, false, false, false, false, false, false, false, false, false, false, false] rfl rfl (by kernel_rfl) (fun _ _ _ h => h) (Or.inr ⟨by rfl, rfl⟩) ?_ ?_
                    rotate_left
                    · simp only [Act.put, List.setIfInBounds_toArray, List.set_cons_zero, List.set_cons_succ, Go.Proofs.YtogcjflneedcfaaDoorW.PrintLast.i64_w, Go.Proofs.YtogcjflneedcfaaDoorW.PrintLast.i32_w]
                      rfl
                    refine Go.Proofs.YtogcjflneedcfaaDoorW.PrintLast.pure_ (i := 19) (N := some 81) (v := _) (a' := ?_) #[true, true, true, true, true, true, true, true, true, true, true, true, true, true, true, true, true, true, true, true, false, false, false, false, false, false, false, false, false, false, false, false] rfl rfl (by kernel_rfl) (fun _ _ _ h => h) (Or.inr ⟨by rfl, rfl⟩) ?_ ?_
                    rotate_left
                    · simp only [Act.put, List.setIfInBounds_toArray, List.set_cons_zero, List.set_cons_succ, Go.Proofs.YtogcjflneedcfaaDoorW.PrintLast.i64_w, Go.Proofs.YtogcjflneedcfaaDoorW.PrintLast.i32_w]
                      rfl
                    refine Go.Proofs.YtogcjflneedcfaaDoorW.PrintLast.pure_ (i := 20) (N := some 82) (v := _) (a' := ?_) #[true, true, true, true, true, true, true, true, true, true, true, true, true, true, true, true, true, true, true, true, true, false, false, false, false, false, false, false, false, false, false, false] rfl rfl (by kernel_rfl) (fun _ _ _ h => h) (Or.inr ⟨by rfl, rfl⟩) ?_ ?_
                    rotate_left
                    · simp only [Act.put, List.setIfInBounds_toArray, List.set_cons_zero, List.set_cons_succ, Go.Proofs.YtogcjflneedcfaaDoorW.PrintLast.i64_w, Go.Proofs.YtogcjflneedcfaaDoorW.PrintLast.i32_w]
                      rfl
                    refine Go.Proofs.YtogcjflneedcfaaDoorW.PrintLast.pure_ (i := 21) (N := some 83) (v := _) (a' := ?_) #[true, true, true, true, true, true, true, true, true, true, true, true, true, true, true, true, true, true, true, true, true, true, false, false, false, false, false, false, false, false, false, false] rfl rfl (by kernel_rfl) (fun _ _ _ h => h) (Or.inr ⟨by rfl, rfl⟩) ?_ ?_
                    rotate_left
                    · simp only [Act.put, List.setIfInBounds_toArray, List.set_cons_zero, List.set_cons_succ, Go.Proofs.YtogcjflneedcfaaDoorW.PrintLast.i64_w, Go.Proofs.YtogcjflneedcfaaDoorW.PrintLast.i32_w]
                      rfl
                    refine Go.Proofs.YtogcjflneedcfaaDoorW.PrintLast.pure_ (i := 22) (N := some 84) (v := _) (a' := ?_) #[true, true, true, true, true, true, true, true, true, true, true, true, true, true, true, true, true, true, true, true, true, true, true, false, false, false, false, false, false, false, false, false] rfl rfl (by kernel_rfl) (fun _ _ _ h => h) (Or.inr ⟨by rfl, rfl⟩) ?_ ?_
                    rotate_left
                    · simp only [Act.put, List.setIfInBounds_toArray, List.set_cons_zero, List.set_cons_succ, Go.Proofs.YtogcjflneedcfaaDoorW.PrintLast.i64_w, Go.Proofs.YtogcjflneedcfaaDoorW.PrintLast.i32_w]
                      rfl
                    refine Go.Proofs.YtogcjflneedcfaaDoorW.PrintLast.pure_ (i := 23) (N := some 85) (v := _) (a' := ?_) #[true, true, true, true, true, true, true, true, true, true, true, true, true, true, true, true, true, true, true, true, true, true, true, true, false, false, false, false, false, false, false, false] rfl rfl (by kernel_rfl) (fun _ _ _ h => h) (Or.inr ⟨by rfl, rfl⟩) ?_ ?_
                    rotate_left
                    · simp only [Act.put, List.setIfInBounds_toArray, List.set_cons_zero, List.set_cons_succ, Go.Proofs.YtogcjflneedcfaaDoorW.PrintLast.i64_w, Go.Proofs.YtogcjflneedcfaaDoorW.PrintLast.i32_w]
                      rfl
                    refine Go.Proofs.YtogcjflneedcfaaDoorW.PrintLast.pure_ (i := 24) (N := some 86) (v := _) (a' := ?_) #[true, true, true, true, true, true, true, true, true, true, true, true, true, true, true, true, true, true, true, true, true, true, true, true, true, false, false, false, false, false, false, false] rfl rfl (by kernel_rfl) (fun _ _ _ h => h) (Or.inr ⟨by rfl, rfl⟩) ?_ ?_
                    rotate_left
                    · simp only [Act.put, List.setIfInBounds_toArray, List.set_cons_zero, List.set_cons_succ, Go.Proofs.YtogcjflneedcfaaDoorW.PrintLast.i64_w, Go.Proofs.YtogcjflneedcfaaDoorW.PrintLast.i32_w]
                      rfl
                    refine Go.Proofs.YtogcjflneedcfaaDoorW.PrintLast.pure_ (i := 25) (N := some 87) (v := _) (a' := ?_) #[true, true, true, true, true, true, true, true, true, true, true, true, true, true, true, true, true, true, true, true, true, true, true, true, true, true, false, false, false, false, false, false] rfl rfl (by kernel_rfl) (fun _ _ _ h => h) (Or.inr ⟨by rfl, rfl⟩) ?_ ?_
                    rotate_left
                    · simp only [Act.put, List.setIfInBounds_toArray, List.set_cons_zero, List.set_cons_succ, Go.Proofs.YtogcjflneedcfaaDoorW.PrintLast.i64_w, Go.Proofs.YtogcjflneedcfaaDoorW.PrintLast.i32_w]
                      rfl
                    refine Go.Proofs.YtogcjflneedcfaaDoorW.PrintLast.pure_ (i := 26) (N := some 88) (v := _) (a' := ?_) #[true, true, true, true, true, true, true, true, true, true, true, true, true, true, true, true, true, true, true, true, true, true, true, true, true, true, true, false, false, false, false, false] rfl rfl (by kernel_rfl) (fun _ _ _ h => h) (Or.inr ⟨by rfl, rfl⟩) ?_ ?_
                    rotate_left
                    · simp only [Act.put, List.setIfInBounds_toArray, List.set_cons_zero, List.set_cons_succ, Go.Proofs.YtogcjflneedcfaaDoorW.PrintLast.i64_w, Go.Proofs.YtogcjflneedcfaaDoorW.PrintLast.i32_w]
                      rfl
                    refine Go.Proofs.YtogcjflneedcfaaDoorW.PrintLast.pure_ (i := 27) (N := some 89) (v := _) (a' := ?_) #[true, true, true, true, true, true, true, true, true, true, true, true, true, true, true, true, true, true, true, true, true, true, true, true, true, true, true, true, false, false, false, false] rfl rfl (by kernel_rfl) (fun _ _ _ h => h) (Or.inr ⟨by rfl, rfl⟩) ?_ ?_
                    rotate_left
                    · simp only [Act.put, List.setIfInBounds_toArray, List.set_cons_zero, List.set_cons_succ, Go.Proofs.YtogcjflneedcfaaDoorW.PrintLast.i64_w, Go.Proofs.YtogcjflneedcfaaDoorW.PrintLast.i32_w]
                      rfl
                    refine Go.Proofs.YtogcjflneedcfaaDoorW.PrintLast.pure_ (i := 28) (N := some 90) (v := _) (a' := ?_) #[true, true, true, true, true, true, true, true, true, true, true, true, true, true, true, true, true, true, true, true, true, true, true, true, true, true, true, true, true, false, false, false] rfl rfl (by kernel_rfl) (fun _ _ _ h => h) (Or.inr ⟨by rfl, rfl⟩) ?_ ?_
                    rotate_left
                    · simp only [Act.put, List.setIfInBounds_toArray, List.set_cons_zero, List.set_cons_succ, Go.Proofs.YtogcjflneedcfaaDoorW.PrintLast.i64_w, Go.Proofs.YtogcjflneedcfaaDoorW.PrintLast.i32_w]
                      rfl
                    refine Go.Proofs.YtogcjflneedcfaaDoorW.PrintLast.pure_ (i := 29) (N := some 91) (v := ?_) (a' := ?_) #[true, true, true, true, true, true, true, true, true, true, true, true, true, true, true, true, true, true, true, true, true, true, true, true, true, true, true, true, true, true, false, false] rfl rfl (by kernel_rfl) (fun _ _ _ h => h) (Or.inl ⟨by rfl, ?_⟩) ?_ ?_
                    rotate_left
                    · intro w'
                      go_simp
                      with_reducible rfl
                    rotate_left
                    · simp only [Act.put, List.setIfInBounds_toArray, List.set_cons_zero, List.set_cons_succ, Go.Proofs.YtogcjflneedcfaaDoorW.PrintLast.i64_w, Go.Proofs.YtogcjflneedcfaaDoorW.PrintLast.i32_w]
                      rfl
                    refine Go.Proofs.YtogcjflneedcfaaDoorW.PrintLast.pure_ (i := 30) (N := some 92) (v := ?_) (a' := ?_) #[true, true, true, true, true, true, true, true, true, true, true, true, true, true, true, true, true, true, true, true, true, true, true, true, true, true, true, true, true, true, true, false] rfl rfl (by kernel_rfl) (fun _ _ _ h => h) (Or.inl ⟨by rfl, ?_⟩) ?_ ?_
                    rotate_left
                    · intro w'
                      go_simp
                      with_reducible rfl
                    rotate_left
                    · simp only [Act.put, List.setIfInBounds_toArray, List.set_cons_zero, List.set_cons_succ, Go.Proofs.YtogcjflneedcfaaDoorW.PrintLast.i64_w, Go.Proofs.YtogcjflneedcfaaDoorW.PrintLast.i32_w]
                      rfl
                    refine Go.Proofs.YtogcjflneedcfaaDoorW.PrintLast.pure_ (i := 31) (N := some 9) (v := ?_) (a' := ?_) #[true, true, true, true, true, true, true, true, true, true, true, true, true, true, true, true, true, true, true, true, true, true, true, true, true, true, true, true, true, true, true, true] rfl rfl (by kernel_rfl) (fun _ _ _ h => h) (Or.inl ⟨by rfl, ?_⟩) ?_ ?_
                    rotate_left
                    · intro w'
                      go_simp
                      with_reducible rfl
                    rotate_left
                    · simp only [Act.put, List.setIfInBounds_toArray, List.set_cons_zero, List.set_cons_succ, Go.Proofs.YtogcjflneedcfaaDoorW.PrintLast.i64_w, Go.Proofs.YtogcjflneedcfaaDoorW.PrintLast.i32_w]
                      rfl
                    refine Go.Proofs.YtogcjflneedcfaaDoorW.PrintLast.done_ (by kernel_rfl) ?_
                    clear hHeld x1 x2 x3 x4 x5 y0 y1 y2 y3 y4 y5 y7
                    go_wp2_with fail
                    go_roundw
                    case rel => exact ⟨m + 1, by go_num, by omega, by rw [anyB_succ]; simp only [HA.out]; rw [HWT.out, HQ2.out]; rfl, HBi.out.drew⟩
                    case measure => simp [intOf]; omega
                  · have u3 : (a.tx == tx) = true := by simpa using hax
                    have HQ2 := Lib.hid u3
                    clear hax
                    cases hag : a.g
                    rotate_left
                    · rw [hag] at y7
                      have HQ3 := Lib.hid hag
                      clear hag
                      go_wp2_with fail
                      refine Go.Proofs.YtogcjflneedcfaaDoorW.PrintLast.start_ (n := 32) (S := fun v => v.cell? ⟨gw, m * 9, none⟩ = some (.int .i64 a.tx) ∧ v.cell? ⟨gw, m * 9 + 1, none⟩ = some (.int .i64 a.o.s) ∧ v.cell? ⟨gw, m * 9 + 2, none⟩ = some (.string a.o.t) ∧ v.cell? ⟨gw, m * 9 + 3, none⟩ = some (.string a.o.l) ∧ v.cell? ⟨gw, m * 9 + 4, none⟩ = some (.string a.o.u) ∧ v.cell? ⟨gw, m * 9 + 5, none⟩ = some (.bool a.o.e) ∧ v.cell? ⟨gw, m * 9 + 7, none⟩ = some (.bool true) ∧ v.cell? ⟨g, k * 9 + 1, none⟩ = some (.int .i64 r.o.s) ∧ v.cell? ⟨g, k * 9 + 2, none⟩ = some (.string r.o.t) ∧ v.cell? ⟨g, k * 9 + 3, none⟩ = some (.string r.o.l) ∧ v.cell? ⟨g, k * 9 + 4, none⟩ = some (.string r.o.u) ∧ v.cell? ⟨g, k * 9 + 5, none⟩ = some (.bool r.o.e)) (ds := [31]) #[false, false, false, false, false, false, false, false, false, false, false, false, false, false, false, false, false, false, false, false, false, false, false, false, false, false, false, false, false, false, false, false] (by kernel_rfl) rfl rfl ⟨y0, y1, y2, y3, y4, y5, y7, x1, x2, x3, x4, x5⟩ (fun hHeld => ?_)
                      refine Go.Proofs.YtogcjflneedcfaaDoorW.PrintLast.pure_ (i := 0) (N := some 62) (v := ?_) (a' := ?_) #[true, false, false, false, false, false, false, false, false, false, false, false, false, false, false, false, false, false, false, false, false, false, false, false, false, false, false, false, false, false, false, false] rfl rfl (by kernel_rfl) (fun _ _ _ h => h) (Or.inl ⟨by rfl, ?_⟩) ?_ ?_
                      rotate_left
                      · intro w'
                        go_simp
                        with_reducible rfl
                      rotate_left
                      · simp only [Act.put, List.setIfInBounds_toArray, List.set_cons_zero, List.set_cons_succ, Go.Proofs.YtogcjflneedcfaaDoorW.PrintLast.i64_w, Go.Proofs.YtogcjflneedcfaaDoorW.PrintLast.i32_w]
                        rfl
                      refine Go.Proofs.YtogcjflneedcfaaDoorW.PrintLast.pure_ (i := 1) (N := some 63) (v := ?_) (a' := ?_) #[true, true, false, false, false, false, false, false, false, false, false, false, false, false, false, false, false, false, false, false, false, false, false, false, false, false, false, false, false, false, false, false] rfl rfl (by kernel_rfl) (fun _ _ _ h => h) (Or.inl ⟨by rfl, ?_⟩) ?_ ?_
                      rotate_left
                      · intro w'
                        go_simp
                        with_reducible rfl
                      rotate_left
                      · simp only [Act.put, List.setIfInBounds_toArray, List.set_cons_zero, List.set_cons_succ, Go.Proofs.YtogcjflneedcfaaDoorW.PrintLast.i64_w, Go.Proofs.YtogcjflneedcfaaDoorW.PrintLast.i32_w]
                        rfl
                      refine Go.Proofs.YtogcjflneedcfaaDoorW.PrintLast.pure_ (i := 2) (N := some 64) (v := ?_) (a' := ?_) #[true, true, true, false, false, false, false, false, false, false, false, false, false, false, false, false, false, false, false, false, false, false, false, false, false, false, false, false, false, false, false, false] rfl rfl (by kernel_rfl) (fun _ _ _ h => h) (Or.inl ⟨by rfl, ?_⟩) ?_ ?_
                      rotate_left
                      · intro w'
                        go_simp
                        with_reducible rfl
                      rotate_left
                      · simp only [Act.put, List.setIfInBounds_toArray, List.set_cons_zero, List.set_cons_succ, Go.Proofs.YtogcjflneedcfaaDoorW.PrintLast.i64_w, Go.Proofs.YtogcjflneedcfaaDoorW.PrintLast.i32_w]
                        rfl
                      refine Go.Proofs.YtogcjflneedcfaaDoorW.PrintLast.pure_ (i := 3) (N := some 65) (v := ?_) (a' := ?_) #[true, true, true, true, false, false, false, false, false, false, false, false, false, false, false, false, false, false, false, false, false, false, false, false, false, false, false, false, false, false, false, false] rfl rfl (by kernel_rfl) (fun _ _ _ h => h) (Or.inl ⟨by rfl, ?_⟩) ?_ ?_
                      rotate_left
                      · intro w'
                        go_simp
                        with_reducible rfl
                      rotate_left
                      · simp only [Act.put, List.setIfInBounds_toArray, List.set_cons_zero, List.set_cons_succ, Go.Proofs.YtogcjflneedcfaaDoorW.PrintLast.i64_w, Go.Proofs.YtogcjflneedcfaaDoorW.PrintLast.i32_w]
                        rfl
                      refine Go.Proofs.YtogcjflneedcfaaDoorW.PrintLast.pure_ (i := 4) (N := some 66) (v := ?_) (a' := ?_) #[true, true, true, true, true, false, false, false, false, false, false, false, false, false, false, false, false, false, false, false, false, false, false, false, false, false, false, false, false, false, false, false] rfl rfl (by kernel_rfl) (fun _ _ _ h => h) (Or.inl ⟨by rfl, ?_⟩) ?_ ?_
                      rotate_left
                      · intro w'
                        go_simp
                        with_reducible rfl
                      rotate_left
                      · simp only [Act.put, List.setIfInBounds_toArray, List.set_cons_zero, List.set_cons_succ, Go.Proofs.YtogcjflneedcfaaDoorW.PrintLast.i64_w, Go.Proofs.YtogcjflneedcfaaDoorW.PrintLast.i32_w]
                        rfl
                      refine Go.Proofs.YtogcjflneedcfaaDoorW.PrintLast.pure_ (i := 5) (N := some 67) (v := ?_) (a' := ?_) #[true, true, true, true, true, true, false, false, false, false, false, false, false, false, false, false, false, false, false, false, false, false, false, false, false, false, false, false, false, false, false, false] rfl rfl (by kernel_rfl) (fun _ _ _ h => h) (Or.inl ⟨by rfl, ?_⟩) ?_ ?_
                      rotate_left
                      · intro w'
                        go_simp
                        with_reducible rfl
                      rotate_left
                      · simp only [Act.put, List.setIfInBounds_toArray, List.set_cons_zero, List.set_cons_succ, Go.Proofs.YtogcjflneedcfaaDoorW.PrintLast.i64_w, Go.Proofs.YtogcjflneedcfaaDoorW.PrintLast.i32_w]
                        rfl
                      refine Go.Proofs.YtogcjflneedcfaaDoorW.PrintLast.take_ (i := 6) (N := some 68) (v := ?_) (a' := ?_) #[true, true, true, true, true, true, true, false, false, false, false, false, false, false, false, false, false, false, false, false, false, false, false, false, false, false, false, false, false, false, false, false] rfl rfl (by kernel_rfl) (fun _ _ _ h => h) (Or.inl ⟨by rfl, ?_⟩) hHeld ?_ ?_
                      rotate_left
                      · rintro w' ⟨s0, s1, s2, s3, s4, s5, s7, t1, t2, t3, t4, t5⟩
                        go_simp
                        with_reducible rfl
                      rotate_left
                      · simp only [Act.put, List.setIfInBounds_toArray, List.set_cons_zero, List.set_cons_succ, Go.Proofs.YtogcjflneedcfaaDoorW.PrintLast.i64_w, Go.Proofs.YtogcjflneedcfaaDoorW.PrintLast.i32_w]
                        rfl
                      refine Go.Proofs.YtogcjflneedcfaaDoorW.PrintLast.pure_ (i := 7) (N := some 69) (v := ?_) (a' := ?_) #[true, true, true, true, true, true, true, true, false, false, false, false, false, false, false, false, false, false, false, false, false, false, false, false, false, false, false, false, false, false, false, false] rfl rfl (by kernel_rfl) (fun _ _ _ h => h) (Or.inl ⟨by rfl, ?_⟩) ?_ ?_
                      rotate_left
                      · intro w'
                        go_simp
                        with_reducible rfl
                      rotate_left
                      · simp only [Act.put, List.setIfInBounds_toArray, List.set_cons_zero, List.set_cons_succ, Go.Proofs.YtogcjflneedcfaaDoorW.PrintLast.i64_w, Go.Proofs.YtogcjflneedcfaaDoorW.PrintLast.i32_w]
                        rfl
                      refine Go.Proofs.YtogcjflneedcfaaDoorW.PrintLast.pure_ (i := 8) (N := some 70) (v := ?_) (a' := ?_) #[true, true, true, true, true, true, true, true, true, false, false, false, false, false, false, false, false, false, false, false, false, false, false, false, false, false, false, false, false, false, false, false] rfl rfl (by kernel_rfl) (fun _ _ _ h => h) (Or.inl ⟨by rfl, ?_⟩) ?_ ?_
                      rotate_left
                      · intro w'
                        go_simp
                        with_reducible rfl
                      rotate_left
                      · simp only [Act.put, List.setIfInBounds_toArray, List.set_cons_zero, List.set_cons_succ, Go.Proofs.YtogcjflneedcfaaDoorW.PrintLast.i64_w, Go.Proofs.YtogcjflneedcfaaDoorW.PrintLast.i32_w]
                        rfl
                      refine Go.Proofs.YtogcjflneedcfaaDoorW.PrintLast.pure_ (i := 9) (N := some 71) (v := ?_) (a' := ?_) #[true, true, true, true, true, true, true, true, true, true, false, false, false, false, false, false, false, false, false, false, false, false, false, false, false, false, false, false, false, false, false, false] rfl rfl (by kernel_rfl) (fun _ _ _ h => h) (Or.inl ⟨by rfl, ?_⟩) ?_ ?_
                      rotate_left
                      · intro w'
                        go_simp
                        with_reducible rfl
                      rotate_left
                      · simp only [Act.put, List.setIfInBounds_toArray, List.set_cons_zero, List.set_cons_succ, Go.Proofs.YtogcjflneedcfaaDoorW.PrintLast.i64_w, Go.Proofs.YtogcjflneedcfaaDoorW.PrintLast.i32_w]
                        rfl
                      refine Go.Proofs.YtogcjflneedcfaaDoorW.PrintLast.pure_ (i := 10) (N := some 72) (v := ?_) (a' := ?_) #[true, true, true, true, true, true, true, true, true, true, true, false, false, false, false, false, false, false, false, false, false, false, false, false, false, false, false, false, false, false, false, false] rfl rfl (by kernel_rfl) (fun _ _ _ h => h) (Or.inl ⟨by rfl, ?_⟩) ?_ ?_
                      rotate_left
                      · intro w'
                        go_simp
                        with_reducible rfl
                      rotate_left
                      · simp only [Act.put, List.setIfInBounds_toArray, List.set_cons_zero, List.set_cons_succ, Go.Proofs.YtogcjflneedcfaaDoorW.PrintLast.i64_w, Go.Proofs.YtogcjflneedcfaaDoorW.PrintLast.i32_w]
                        rfl
                      refine Go.Proofs.YtogcjflneedcfaaDoorW.PrintLast.pure_ (i := 11) (N := some 73) (v := ?_) (a' := ?_) #[true, true, true, true, true, true, true, true, true, true, true, true, false, false, false, false, false, false, false, false, false, false, false, false, false, false, false, false, false, false, false, false] rfl rfl (by kernel_rfl) (fun _ _ _ h => h) (Or.inl ⟨by rfl, ?_⟩) ?_ ?_
                      rotate_left
                      · intro w'
                        go_simp
                        with_reducible rfl
                      rotate_left
                      · simp only [Act.put, List.setIfInBounds_toArray, List.set_cons_zero, List.set_cons_succ, Go.Proofs.YtogcjflneedcfaaDoorW.PrintLast.i64_w, Go.Proofs.YtogcjflneedcfaaDoorW.PrintLast.i32_w]
                        rfl
                      refine Go.Proofs.YtogcjflneedcfaaDoorW.PrintLast.pure_ (i := 12) (N := some 74) (v := ?_) (a' := ?_) #[true, true, true, true, true, true, true, true, true, true, true, true, true, false, false, false, false, false, false, false, false, false, false, false, false, false, false, false, false, false, false, false] rfl rfl (by kernel_rfl) (fun _ _ _ h => h) (Or.inl ⟨by rfl, ?_⟩) ?_ ?_
                      rotate_left
                      · intro w'
                        go_simp
                        with_reducible rfl
                      rotate_left
                      · simp only [Act.put, List.setIfInBounds_toArray, List.set_cons_zero, List.set_cons_succ, Go.Proofs.YtogcjflneedcfaaDoorW.PrintLast.i64_w, Go.Proofs.YtogcjflneedcfaaDoorW.PrintLast.i32_w]
                        rfl
                      refine Go.Proofs.YtogcjflneedcfaaDoorW.PrintLast.pure_ (i := 13) (N := some 75) (v := ?_) (a' := ?_) #[true, true, true, true, true, true, true, true, true, true, true, true, true, true, false, false, false, false, false, false, false, false, false, false, false, false, false, false, false, false, false, false] rfl rfl (by kernel_rfl) (fun _ _ _ h => h) (Or.inl ⟨by rfl, ?_⟩) ?_ ?_
                      rotate_left
                      · intro w'
                        go_simp
                        with_reducible rfl
                      rotate_left
                      · simp only [Act.put, List.setIfInBounds_toArray, List.set_cons_zero, List.set_cons_succ, Go.Proofs.YtogcjflneedcfaaDoorW.PrintLast.i64_w, Go.Proofs.YtogcjflneedcfaaDoorW.PrintLast.i32_w]
                        rfl
                      refine Go.Proofs.YtogcjflneedcfaaDoorW.PrintLast.take_ (i := 14) (N := some 76) (v := ?_) (a' := ?_) #[true, true, true, true, true, true, true, true, true, true, true, true, true, true, true, false, false, false, false, false, false, false, false, false, false, false, false, false, false, false, false, false] rfl rfl (by kernel_rfl) (fun _ _ _ h => h) (Or.inl ⟨by rfl, ?_⟩) hHeld ?_ ?_
                      rotate_left
                      · rintro w' ⟨s0, s1, s2, s3, s4, s5, s7, t1, t2, t3, t4, t5⟩
                        go_simp
                        with_reducible rfl
                      rotate_left
                      · simp only [Act.put, List.setIfInBounds_toArray, List.set_cons_zero, List.set_cons_succ, Go.Proofs.YtogcjflneedcfaaDoorW.PrintLast.i64_w, Go.Proofs.YtogcjflneedcfaaDoorW.PrintLast.i32_w]
                        rfl
                      refine Go.Proofs.YtogcjflneedcfaaDoorW.PrintLast.pure_ (i := 15) (N := some 77) (v := ?_) (a' := ?_) #[true, true, true, true, true, true, true, true, true, true, true, true, true, true, true, true, false, false, false, false, false, false, false, false, false, false, false, false, false, false, false, false] rfl rfl (by kernel_rfl) (fun _ _ _ h => h) (Or.inl ⟨by rfl, ?_⟩) ?_ ?_
                      rotate_left
                      · intro w'
                        go_simp
                        with_reducible rfl
                      rotate_left
                      · simp only [Act.put, List.setIfInBounds_toArray, List.set_cons_zero, List.set_cons_succ, Go.Proofs.YtogcjflneedcfaaDoorW.PrintLast.i64_w, Go.Proofs.YtogcjflneedcfaaDoorW.PrintLast.i32_w]
                        rfl
                      refine Go.Proofs.YtogcjflneedcfaaDoorW.PrintLast.pure_ (i := 16) (N := some 78) (v := ?_) (a' := ?_) #[true, true, true, true, true, true, true, true, true, true, true, true, true, true, true, true, true, false, false, false, false, false, false, false, false, false, false, false, false, false, false, false] rfl rfl (by kernel_rfl) (fun _ _ _ h => h) (Or.inl ⟨by rfl, ?_⟩) ?_ ?_
                      rotate_left
                      · intro w'
                        go_simp
                        with_reducible rfl
                      rotate_left
                      · simp only [Act.put, List.setIfInBounds_toArray, List.set_cons_zero, List.set_cons_succ, Go.Proofs.YtogcjflneedcfaaDoorW.PrintLast.i64_w, Go.Proofs.YtogcjflneedcfaaDoorW.PrintLast.i32_w]
                        rfl
                      refine Go.Proofs.YtogcjflneedcfaaDoorW.PrintLast.pure_ (i := 17) (N := some 79) (v := ?_) (a' := ?_) #[true, true, true, true, true, true, true, true, true, true, true, true, true, true, true, true, true, true, false, false, false, false, false, false, false, false, false, false, false, false, false, false] rfl rfl (by kernel_rfl) (fun _ _ _ h => h) (Or.inl ⟨by rfl, ?_⟩) ?_ ?_
                      rotate_left
                      · intro w'
                        go_simp
                        with_reducible rfl
                      rotate_left
                      · simp only [Act.put, List.setIfInBounds_toArray, List.set_cons_zero, List.set_cons_succ, Go.Proofs.YtogcjflneedcfaaDoorW.PrintLast.i64_w, Go.Proofs.YtogcjflneedcfaaDoorW.PrintLast.i32_w]
                        rfl
                      refine Go.Proofs.YtogcjflneedcfaaDoorW.PrintLast.pure_ (i := 18) (N := some 80) (v := _) (a' := ?_) #[true, true, true, true, true, true, true, true, true, true, true, true, true, true, true, true, true, true, true, false, false, false, false, false, false, false, false, false, false, false, false, false] rfl rfl (by kernel_rfl) (fun _ _ _ h => h) (Or.inr ⟨by rfl, rfl⟩) ?_ ?_
                      rotate_left
                      · simp only [Act.put, List.setIfInBounds_toArray, List.set_cons_zero, List.set_cons_succ, Go.Proofs.YtogcjflneedcfaaDoorW.PrintLast.i64_w, Go.Proofs.YtogcjflneedcfaaDoorW.PrintLast.i32_w]
                        rfl
                      refine Go.Proofs.YtogcjflneedcfaaDoorW.PrintLast.pure_ (i := 19) (N := some 81) (v := _) (a' := ?_) #[true, true, true, true, true, true, true, true, true, true, true, true, true, true, true, true, true, true, true, true, false, false, false, false, false, false, false, false, false, false, false, false] rfl rfl (by kernel_rfl) (fun _ _ _ h => h) (Or.inr ⟨by rfl, rfl⟩) ?_ ?_
                      rotate_left
                      · simp only [Act.put, List.setIfInBounds_toArray, List.set_cons_zero, List.set_cons_succ, Go.Proofs.YtogcjflneedcfaaDoorW.PrintLast.i64_w, Go.Proofs.YtogcjflneedcfaaDoorW.PrintLast.i32_w]
                        rfl
                      refine Go.Proofs.YtogcjflneedcfaaDoorW.PrintLast.pure_ (i := 20) (N := some 82) (v := _) (a' := ?_) #[true, true, true, true, true, true, true, true, true, true, true, true, true, true, true, true, true, true, true, true, true, false, false, false, false, false, false, false, false, false, false, false] rfl rfl (by kernel_rfl) (fun _ _ _ h => h) (Or.inr ⟨by rfl, rfl⟩) ?_ ?_
                      rotate_left
                      · simp only [Act.put, List.setIfInBounds_toArray, List.set_cons_zero, List.set_cons_succ, Go.Proofs.YtogcjflneedcfaaDoorW.PrintLast.i64_w, Go.Proofs.YtogcjflneedcfaaDoorW.PrintLast.i32_w]
                        rfl
                      refine Go.Proofs.YtogcjflneedcfaaDoorW.PrintLast.pure_ (i := 21) (N := some 83) (v := _) (a' := ?_) #[true, true, true, true, true, true, true, true, true, true, true, true, true, true, true, true, true, true, true, true, true, true, false, false, false, false, false, false, false, false, false, false] rfl rfl (by kernel_rfl) (fun _ _ _ h => h) (Or.inr ⟨by rfl, rfl⟩) ?_ ?_
                      rotate_left
                      · simp only [Act.put, List.setIfInBounds_toArray, List.set_cons_zero, List.set_cons_succ, Go.Proofs.YtogcjflneedcfaaDoorW.PrintLast.i64_w, Go.Proofs.YtogcjflneedcfaaDoorW.PrintLast.i32_w]
                        rfl
                      refine Go.Proofs.YtogcjflneedcfaaDoorW.PrintLast.pure_ (i := 22) (N := some 84) (v := _) (a' := ?_) #[true, true, true, true, true, true, true, true, true, true, true, true, true, true, true, true, true, true, true, true, true, true, true, false, false, false, false, false, false, false, false, false] rfl rfl (by kernel_rfl) (fun _ _ _ h => h) (Or.inr ⟨by rfl, rfl⟩) ?_ ?_
                      rotate_left
                      · simp only [Act.put, List.setIfInBounds_toArray, List.set_cons_zero, List.set_cons_succ, Go.Proofs.YtogcjflneedcfaaDoorW.PrintLast.i64_w, Go.Proofs.YtogcjflneedcfaaDoorW.PrintLast.i32_w]
                        rfl
                      refine Go.Proofs.YtogcjflneedcfaaDoorW.PrintLast.pure_ (i := 23) (N := some 85) (v := _) (a' := ?_) #[true, true, true, true, true, true, true, true, true, true, true, true, true, true, true, true, true, true, true, true, true, true, true, true, false, false, false, false, false, false, false, false] rfl rfl (by kernel_rfl) (fun _ _ _ h => h) (Or.inr ⟨by rfl, rfl⟩) ?_ ?_
                      rotate_left
                      · simp only [Act.put, List.setIfInBounds_toArray, List.set_cons_zero, List.set_cons_succ, Go.Proofs.YtogcjflneedcfaaDoorW.PrintLast.i64_w, Go.Proofs.YtogcjflneedcfaaDoorW.PrintLast.i32_w]
                        rfl
                      refine Go.Proofs.YtogcjflneedcfaaDoorW.PrintLast.pure_ (i := 24) (N := some 86) (v := _) (a' := ?_) #[true, true, true, true, true, true, true, true, true, true, true, true, true, true, true, true, true, true, true, true, true, true, true, true, true, false, false, false, false, false, false, false] rfl rfl (by kernel_rfl) (fun _ _ _ h => h) (Or.inr ⟨by rfl, rfl⟩) ?_ ?_
                      rotate_left
                      · simp only [Act.put, List.setIfInBounds_toArray, List.set_cons_zero, List.set_cons_succ, Go.Proofs.YtogcjflneedcfaaDoorW.PrintLast.i64_w, Go.Proofs.YtogcjflneedcfaaDoorW.PrintLast.i32_w]
                        rfl
                      refine Go.Proofs.YtogcjflneedcfaaDoorW.PrintLast.pure_ (i := 25) (N := some 87) (v := _) (a' := ?_) #[true, true, true, true, true, true, true, true, true, true, true, true, true, true, true, true, true, true, true, true, true, true, true, true, true, true, false, false, false, false, false, false] rfl rfl (by kernel_rfl) (fun _ _ _ h => h) (Or.inr ⟨by rfl, rfl⟩) ?_ ?_
                      rotate_left
                      · simp only [Act.put, List.setIfInBounds_toArray, List.set_cons_zero, List.set_cons_succ, Go.Proofs.YtogcjflneedcfaaDoorW.PrintLast.i64_w, Go.Proofs.YtogcjflneedcfaaDoorW.PrintLast.i32_w]
                        rfl
                      refine Go.Proofs.YtogcjflneedcfaaDoorW.PrintLast.pure_ (i := 26) (N := some 88) (v := _) (a' := ?_) #[true, true, true, true, true, true, true, true, true, true, true, true, true, true, true, true, true, true, true, true, true, true, true, true, true, true, true, false, false, false, false, false] rfl rfl (by kernel_rfl) (fun _ _ _ h => h) (Or.inr ⟨by rfl, rfl⟩) ?_ ?_
                      rotate_left
                      · simp only [Act.put, List.setIfInBounds_toArray, List.set_cons_zero, List.set_cons_succ, Go.Proofs.YtogcjflneedcfaaDoorW.PrintLast.i64_w, Go.Proofs.YtogcjflneedcfaaDoorW.PrintLast.i32_w]
                        rfl
                      refine Go.Proofs.YtogcjflneedcfaaDoorW.PrintLast.pure_ (i := 27) (N := some 89) (v := _) (a' := ?_) #[true, true, true, true, true, true, true, true, true, true, true, true, true, true, true, true, true, true, true, true, true, true, true, true, true, true, true, true, false, false, false, false] rfl rfl (by kernel_rfl) (fun _ _ _ h => h) (Or.inr ⟨by rfl, rfl⟩) ?_ ?_
                      rotate_left
                      · simp only [Act.put, List.setIfInBounds_toArray, List.set_cons_zero, List.set_cons_succ, Go.Proofs.YtogcjflneedcfaaDoorW.PrintLast.i64_w, Go.Proofs.YtogcjflneedcfaaDoorW.PrintLast.i32_w]
                        rfl
                      refine Go.Proofs.YtogcjflneedcfaaDoorW.PrintLast.pure_ (i := 28) (N := some 90) (v := _) (a' := ?_) #[true, true, true, true, true, true, true, true, true, true, true, true, true, true, true, true, true, true, true, true, true, true, true, true, true, true, true, true, true, false, false, false] rfl rfl (by kernel_rfl) (fun _ _ _ h => h) (Or.inr ⟨by rfl, rfl⟩) ?_ ?_
                      rotate_left
                      · simp only [Act.put, List.setIfInBounds_toArray, List.set_cons_zero, List.set_cons_succ, Go.Proofs.YtogcjflneedcfaaDoorW.PrintLast.i64_w, Go.Proofs.YtogcjflneedcfaaDoorW.PrintLast.i32_w]
                        rfl
                      refine Go.Proofs.YtogcjflneedcfaaDoorW.PrintLast.pure_ (i := 29) (N := some 91) (v := ?_) (a' := ?_) #[true, true, true, true, true, true, true, true, true, true, true, true, true, true, true, true, true, true, true, true, true, true, true, true, true, true, true, true, true, true, false, false] rfl rfl (by kernel_rfl) (fun _ _ _ h => h) (Or.inl ⟨by rfl, ?_⟩) ?_ ?_
                      rotate_left
                      · intro w'
                        go_simp
                        with_reducible rfl
                      rotate_left
                      · simp only [Act.put, List.setIfInBounds_toArray, List.set_cons_zero, List.set_cons_succ, Go.Proofs.YtogcjflneedcfaaDoorW.PrintLast.i64_w, Go.Proofs.YtogcjflneedcfaaDoorW.PrintLast.i32_w]
                        rfl
                      refine Go.Proofs.YtogcjflneedcfaaDoorW.PrintLast.pure_ (i := 30) (N := some 92) (v := ?_) (a' := ?_) #[true, true, true, true, true, true, true, true, true, true, true, true, true, true, true, true, true, true, true, true, true, true, true, true, true, true, true, true, true, true, true, false] rfl rfl (by kernel_rfl) (fun _ _ _ h => h) (Or.inl ⟨by rfl, ?_⟩) ?_ ?_
                      rotate_left
                      · intro w'
                        go_simp
                        with_reducible rfl
                      rotate_left
                      · simp only [Act.put, List.setIfInBounds_toArray, List.set_cons_zero, List.set_cons_succ, Go.Proofs.YtogcjflneedcfaaDoorW.PrintLast.i64_w, Go.Proofs.YtogcjflneedcfaaDoorW.PrintLast.i32_w]
                        rfl
                      refine Go.Proofs.YtogcjflneedcfaaDoorW.PrintLast.pure_ (i := 31) (N := some 9) (v := ?_) (a' := ?_) #[true, true, true, true, true, true, true, true, true, true, true, true, true, true, true, true, true, true, true, true, true, true, true, true, true, true, true, true, true, true, true, true] rfl rfl (by kernel_rfl) (fun _ _ _ h => h) (Or.inl ⟨by rfl, ?_⟩) ?_ ?_
                      rotate_left
                      · intro w'
                        go_simp
                        with_reducible rfl
                      rotate_left
                      · simp only [Act.put, List.setIfInBounds_toArray, List.set_cons_zero, List.set_cons_succ, Go.Proofs.YtogcjflneedcfaaDoorW.PrintLast.i64_w, Go.Proofs.YtogcjflneedcfaaDoorW.PrintLast.i32_w]
                        rfl
                      refine Go.Proofs.YtogcjflneedcfaaDoorW.PrintLast.done_ (by kernel_rfl) ?_
                      clear hHeld x1 x2 x3 x4 x5 y0 y1 y2 y3 y4 y5 y7
                      go_wp2_with fail
                      go_roundw
                      case rel => exact ⟨m + 1, by go_num, by omega, by rw [anyB_succ]; simp only [HA.out]; rw [HWT.out, HQ2.out, HQ3.out]; rfl, HBi.out.drew⟩
                      case measure => simp [intOf]; omega
                    · rw [hag] at y7
                      have HQ3 := Lib.hid hag
                      clear hag
                      obtain ⟨bo, hbo⟩ : ∃ bo, obEq a.o r.o = bo := ⟨_, rfl⟩
                      have hrob := fun w => run_ob a.o r.o w
                      simp only [hbo] at hrob
                      have HQ4 := Lib.hid hbo
                      clear hbo
                      go_wp2_with fail
                      refine Go.Proofs.YtogcjflneedcfaaDoorW.PrintLast.start_ (n := 32) (S := fun v => v.cell? ⟨gw, m * 9, none⟩ = some (.int .i64 a.tx) ∧ v.cell? ⟨gw, m * 9 + 1, none⟩ = some (.int .i64 a.o.s) ∧ v.cell? ⟨gw, m * 9 + 2, none⟩ = some (.string a.o.t) ∧ v.cell? ⟨gw, m * 9 + 3, none⟩ = some (.string a.o.l) ∧ v.cell? ⟨gw, m * 9 + 4, none⟩ = some (.string a.o.u) ∧ v.cell? ⟨gw, m * 9 + 5, none⟩ = some (.bool a.o.e) ∧ v.cell? ⟨gw, m * 9 + 7, none⟩ = some (.bool false) ∧ v.cell? ⟨g, k * 9 + 1, none⟩ = some (.int .i64 r.o.s) ∧ v.cell? ⟨g, k * 9 + 2, none⟩ = some (.string r.o.t) ∧ v.cell? ⟨g, k * 9 + 3, none⟩ = some (.string r.o.l) ∧ v.cell? ⟨g, k * 9 + 4, none⟩ = some (.string r.o.u) ∧ v.cell? ⟨g, k * 9 + 5, none⟩ = some (.bool r.o.e)) (ds := [31]) #[false, false, false, false, false, false, false, false, false, false, false, false, false, false, false, false, false, false, false, false, false, false, false, false, false, false, false, false, false, false, false, false] (by kernel_rfl) rfl rfl ⟨y0, y1, y2, y3, y4, y5, y7, x1, x2, x3, x4, x5⟩ (fun hHeld => ?_)
                      refine Go.Proofs.YtogcjflneedcfaaDoorW.PrintLast.pure_ (i := 0) (N := some 62) (v := ?_) (a' := ?_) #[true, false, false, false, false, false, false, false, false, false, false, false, false, false, false, false, false, false, false, false, false, false, false, false, false, false, false, false, false, false, false, false] rfl rfl (by kernel_rfl) (fun _ _ _ h => h) (Or.inl ⟨by rfl, ?_⟩) ?_ ?_
                      rotate_left
                      · intro w'
                        go_simp
                        with_reducible rfl
                      rotate_left
                      · simp only [Act.put, List.setIfInBounds_toArray, List.set_cons_zero, List.set_cons_succ, Go.Proofs.YtogcjflneedcfaaDoorW.PrintLast.i64_w, Go.Proofs.YtogcjflneedcfaaDoorW.PrintLast.i32_w]
                        rfl
                      refine Go.Proofs.YtogcjflneedcfaaDoorW.PrintLast.pure_ (i := 1) (N := some 63) (v := ?_) (a' := ?_) #[true, true, false, false, false, false, false, false, false, false, false, false, false, false, false, false, false, false, false, false, false, false, false, false, false, false, false, false, false, false, false, false] rfl rfl (by kernel_rfl) (fun _ _ _ h => h) (Or.inl ⟨by rfl, ?_⟩) ?_ ?_
                      rotate_left
                      · intro w'
                        go_simp
                        with_reducible rfl
                      rotate_left
                      · simp only [Act.put, List.setIfInBounds_toArray, List.set_cons_zero, List.set_cons_succ, Go.Proofs.YtogcjflneedcfaaDoorW.PrintLast.i64_w, Go.Proofs.YtogcjflneedcfaaDoorW.PrintLast.i32_w]
                        rfl
                      refine Go.Proofs.YtogcjflneedcfaaDoorW.PrintLast.pure_ (i := 2) (N := some 64) (v := ?_) (a' := ?_) #[true, true, true, false, false, false, false, false, false, false, false, false, false, false, false, false, false, false, false, false, false, false, false, false, false, false, false, false, false, false, false, false] rfl rfl (by kernel_rfl) (fun _ _ _ h => h) (Or.inl ⟨by rfl, ?_⟩) ?_ ?_
                      rotate_left
                      · intro w'
                        go_simp
                        with_reducible rfl
                      rotate_left
                      · simp only [Act.put, List.setIfInBounds_toArray, List.set_cons_zero, List.set_cons_succ, Go.Proofs.YtogcjflneedcfaaDoorW.PrintLast.i64_w, Go.Proofs.YtogcjflneedcfaaDoorW.PrintLast.i32_w]
                        rfl
                      refine Go.Proofs.YtogcjflneedcfaaDoorW.PrintLast.pure_ (i := 3) (N := some 65) (v := ?_) (a' := ?_) #[true, true, true, true, false, false, false, false, false, false, false, false, false, false, false, false, false, false, false, false, false, false, false, false, false, false, false, false, false, false, false, false] rfl rfl (by kernel_rfl) (fun _ _ _ h => h) (Or.inl ⟨by rfl, ?_⟩) ?_ ?_
                      rotate_left
                      · intro w'
                        go_simp
                        with_reducible rfl
                      rotate_left
                      · simp only [Act.put, List.setIfInBounds_toArray, List.set_cons_zero, List.set_cons_succ, Go.Proofs.YtogcjflneedcfaaDoorW.PrintLast.i64_w, Go.Proofs.YtogcjflneedcfaaDoorW.PrintLast.i32_w]
                        rfl
                      refine Go.Proofs.YtogcjflneedcfaaDoorW.PrintLast.pure_ (i := 4) (N := some 66) (v := ?_) (a' := ?_) #[true, true, true, true, true, false, false, false, false, false, false, false, false, false, false, false, false, false, false, false, false, false, false, false, false, false, false, false, false, false, false, false] rfl rfl (by kernel_rfl) (fun _ _ _ h => h) (Or.inl ⟨by rfl, ?_⟩) ?_ ?_
                      rotate_left
                      · intro w'
                        go_simp
                        with_reducible rfl
                      rotate_left
                      · simp only [Act.put, List.setIfInBounds_toArray, List.set_cons_zero, List.set_cons_succ, Go.Proofs.YtogcjflneedcfaaDoorW.PrintLast.i64_w, Go.Proofs.YtogcjflneedcfaaDoorW.PrintLast.i32_w]
                        rfl
                      refine Go.Proofs.YtogcjflneedcfaaDoorW.PrintLast.pure_ (i := 5) (N := some 67) (v := ?_) (a' := ?_) #[true, true, true, true, true, true, false, false, false, false, false, false, false, false, false, false, false, false, false, false, false, false, false, false, false, false, false, false, false, false, false, false] rfl rfl (by kernel_rfl) (fun _ _ _ h => h) (Or.inl ⟨by rfl, ?_⟩) ?_ ?_
                      rotate_left
                      · intro w'
                        go_simp
                        with_reducible rfl
                      rotate_left
                      · simp only [Act.put, List.setIfInBounds_toArray, List.set_cons_zero, List.set_cons_succ, Go.Proofs.YtogcjflneedcfaaDoorW.PrintLast.i64_w, Go.Proofs.YtogcjflneedcfaaDoorW.PrintLast.i32_w]
                        rfl
                      refine Go.Proofs.YtogcjflneedcfaaDoorW.PrintLast.take_ (i := 6) (N := some 68) (v := ?_) (a' := ?_) #[true, true, true, true, true, true, true, false, false, false, false, false, false, false, false, false, false, false, false, false, false, false, false, false, false, false, false, false, false, false, false, false] rfl rfl (by kernel_rfl) (fun _ _ _ h => h) (Or.inl ⟨by rfl, ?_⟩) hHeld ?_ ?_
                      rotate_left
                      · rintro w' ⟨s0, s1, s2, s3, s4, s5, s7, t1, t2, t3, t4, t5⟩
                        go_simp
                        with_reducible rfl
                      rotate_left
                      · simp only [Act.put, List.setIfInBounds_toArray, List.set_cons_zero, List.set_cons_succ, Go.Proofs.YtogcjflneedcfaaDoorW.PrintLast.i64_w, Go.Proofs.YtogcjflneedcfaaDoorW.PrintLast.i32_w]
                        rfl
                      refine Go.Proofs.YtogcjflneedcfaaDoorW.PrintLast.pure_ (i := 7) (N := some 69) (v := ?_) (a' := ?_) #[true, true, true, true, true, true, true, true, false, false, false, false, false, false, false, false, false, false, false, false, false, false, false, false, false, false, false, false, false, false, false, false] rfl rfl (by kernel_rfl) (fun _ _ _ h => h) (Or.inl ⟨by rfl, ?_⟩) ?_ ?_
                      rotate_left
                      · intro w'
                        go_simp
                        with_reducible rfl
                      rotate_left
                      · simp only [Act.put, List.setIfInBounds_toArray, List.set_cons_zero, List.set_cons_succ, Go.Proofs.YtogcjflneedcfaaDoorW.PrintLast.i64_w, Go.Proofs.YtogcjflneedcfaaDoorW.PrintLast.i32_w]
                        rfl
                      refine Go.Proofs.YtogcjflneedcfaaDoorW.PrintLast.pure_ (i := 8) (N := some 70) (v := ?_) (a' := ?_) #[true, true, true, true, true, true, true, true, true, false, false, false, false, false, false, false, false, false, false, false, false, false, false, false, false, false, false, false, false, false, false, false] rfl rfl (by kernel_rfl) (fun _ _ _ h => h) (Or.inl ⟨by rfl, ?_⟩) ?_ ?_
                      rotate_left
                      · intro w'
                        go_simp
                        with_reducible rfl
                      rotate_left
                      · simp only [Act.put, List.setIfInBounds_toArray, List.set_cons_zero, List.set_cons_succ, Go.Proofs.YtogcjflneedcfaaDoorW.PrintLast.i64_w, Go.Proofs.YtogcjflneedcfaaDoorW.PrintLast.i32_w]
                        rfl
                      refine Go.Proofs.YtogcjflneedcfaaDoorW.PrintLast.pure_ (i := 9) (N := some 71) (v := ?_) (a' := ?_) #[true, true, true, true, true, true, true, true, true, true, false, false, false, false, false, false, false, false, false, false, false, false, false, false, false, false, false, false, false, false, false, false] rfl rfl (by kernel_rfl) (fun _ _ _ h => h) (Or.inl ⟨by rfl, ?_⟩) ?_ ?_
                      rotate_left
                      · intro w'
                        go_simp
                        with_reducible rfl
                      rotate_left
                      · simp only [Act.put, List.setIfInBounds_toArray, List.set_cons_zero, List.set_cons_succ, Go.Proofs.YtogcjflneedcfaaDoorW.PrintLast.i64_w, Go.Proofs.YtogcjflneedcfaaDoorW.PrintLast.i32_w]
                        rfl
                      refine Go.Proofs.YtogcjflneedcfaaDoorW.PrintLast.pure_ (i := 10) (N := some 72) (v := ?_) (a' := ?_) #[true, true, true, true, true, true, true, true, true, true, true, false, false, false, false, false, false, false, false, false, false, false, false, false, false, false, false, false, false, false, false, false] rfl rfl (by kernel_rfl) (fun _ _ _ h => h) (Or.inl ⟨by rfl, ?_⟩) ?_ ?_
                      rotate_left
                      · intro w'
                        go_simp
                        with_reducible rfl
                      rotate_left
                      · simp only [Act.put, List.setIfInBounds_toArray, List.set_cons_zero, List.set_cons_succ, Go.Proofs.YtogcjflneedcfaaDoorW.PrintLast.i64_w, Go.Proofs.YtogcjflneedcfaaDoorW.PrintLast.i32_w]
                        rfl
                      refine Go.Proofs.YtogcjflneedcfaaDoorW.PrintLast.pure_ (i := 11) (N := some 73) (v := ?_) (a' := ?_) #[true, true, true, true, true, true, true, true, true, true, true, true, false, false, false, false, false, false, false, false, false, false, false, false, false, false, false, false, false, false, false, false] rfl rfl (by kernel_rfl) (fun _ _ _ h => h) (Or.inl ⟨by rfl, ?_⟩) ?_ ?_
                      rotate_left
                      · intro w'
                        go_simp
                        with_reducible rfl
                      rotate_left
                      · simp only [Act.put, List.setIfInBounds_toArray, List.set_cons_zero, List.set_cons_succ, Go.Proofs.YtogcjflneedcfaaDoorW.PrintLast.i64_w, Go.Proofs.YtogcjflneedcfaaDoorW.PrintLast.i32_w]
                        rfl
                      refine Go.Proofs.YtogcjflneedcfaaDoorW.PrintLast.pure_ (i := 12) (N := some 74) (v := ?_) (a' := ?_) #[true, true, true, true, true, true, true, true, true, true, true, true, true, false, false, false, false, false, false, false, false, false, false, false, false, false, false, false, false, false, false, false] rfl rfl (by kernel_rfl) (fun _ _ _ h => h) (Or.inl ⟨by rfl, ?_⟩) ?_ ?_
                      rotate_left
                      · intro w'
                        go_simp
                        with_reducible rfl
                      rotate_left
                      · simp only [Act.put, List.setIfInBounds_toArray, List.set_cons_zero, List.set_cons_succ, Go.Proofs.YtogcjflneedcfaaDoorW.PrintLast.i64_w, Go.Proofs.YtogcjflneedcfaaDoorW.PrintLast.i32_w]
                        rfl
                      refine Go.Proofs.YtogcjflneedcfaaDoorW.PrintLast.pure_ (i := 13) (N := some 75) (v := ?_) (a' := ?_) #[true, true, true, true, true, true, true, true, true, true, true, true, true, true, false, false, false, false, false, false, false, false, false, false, false, false, false, false, false, false, false, false] rfl rfl (by kernel_rfl) (fun _ _ _ h => h) (Or.inl ⟨by rfl, ?_⟩) ?_ ?_
                      rotate_left
                      · intro w'
                        go_simp
                        with_reducible rfl
                      rotate_left
                      · simp only [Act.put, List.setIfInBounds_toArray, List.set_cons_zero, List.set_cons_succ, Go.Proofs.YtogcjflneedcfaaDoorW.PrintLast.i64_w, Go.Proofs.YtogcjflneedcfaaDoorW.PrintLast.i32_w]
                        rfl
                      refine Go.Proofs.YtogcjflneedcfaaDoorW.PrintLast.take_ (i := 14) (N := some 76) (v := ?_) (a' := ?_) #[true, true, true, true, true, true, true, true, true, true, true, true, true, true, true, false, false, false, false, false, false, false, false, false, false, false, false, false, false, false, false, false] rfl rfl (by kernel_rfl) (fun _ _ _ h => h) (Or.inl ⟨by rfl, ?_⟩) hHeld ?_ ?_
                      rotate_left
                      · rintro w' ⟨s0, s1, s2, s3, s4, s5, s7, t1, t2, t3, t4, t5⟩
                        go_simp
                        with_reducible rfl
                      rotate_left
                      · simp only [Act.put, List.setIfInBounds_toArray, List.set_cons_zero, List.set_cons_succ, Go.Proofs.YtogcjflneedcfaaDoorW.PrintLast.i64_w, Go.Proofs.YtogcjflneedcfaaDoorW.PrintLast.i32_w]
                        rfl
                      refine Go.Proofs.YtogcjflneedcfaaDoorW.PrintLast.pure_ (i := 15) (N := some 77) (v := ?_) (a' := ?_) #[true, true, true, true, true, true, true, true, true, true, true, true, true, true, true, true, false, false, false, false, false, false, false, false, false, false, false, false, false, false, false, false] rfl rfl (by kernel_rfl) (fun _ _ _ h => h) (Or.inl ⟨by rfl, ?_⟩) ?_ ?_
                      rotate_left
                      · intro w'
                        go_simp
                        with_reducible rfl
                      rotate_left
                      · simp only [Act.put, List.setIfInBounds_toArray, List.set_cons_zero, List.set_cons_succ, Go.Proofs.YtogcjflneedcfaaDoorW.PrintLast.i64_w, Go.Proofs.YtogcjflneedcfaaDoorW.PrintLast.i32_w]
                        rfl
                      refine Go.Proofs.YtogcjflneedcfaaDoorW.PrintLast.pure_ (i := 16) (N := some 78) (v := ?_) (a' := ?_) #[true, true, true, true, true, true, true, true, true, true, true, true, true, true, true, true, true, false, false, false, false, false, false, false, false, false, false, false, false, false, false, false] rfl rfl (by kernel_rfl) (fun _ _ _ h => h) (Or.inl ⟨by rfl, ?_⟩) ?_ ?_
                      rotate_left
                      · intro w'
                        go_simp
                        with_reducible rfl
                      rotate_left
                      · simp only [Act.put, List.setIfInBounds_toArray, List.set_cons_zero, List.set_cons_succ, Go.Proofs.YtogcjflneedcfaaDoorW.PrintLast.i64_w, Go.Proofs.YtogcjflneedcfaaDoorW.PrintLast.i32_w]
                        rfl
                      refine Go.Proofs.YtogcjflneedcfaaDoorW.PrintLast.pure_ (i := 17) (N := some 79) (v := ?_) (a' := ?_) #[true, true, true, true, true, true, true, true, true, true, true, true, true, true, true, true, true, true, false, false, false, false, false, false, false, false, false, false, false, false, false, false] rfl rfl (by kernel_rfl) (fun _ _ _ h => h) (Or.inl ⟨by rfl, ?_⟩) ?_ ?_
                      rotate_left
                      · intro w'
                        go_simp
                        with_reducible rfl
                      rotate_left
                      · simp only [Act.put, List.setIfInBounds_toArray, List.set_cons_zero, List.set_cons_succ, Go.Proofs.YtogcjflneedcfaaDoorW.PrintLast.i64_w, Go.Proofs.YtogcjflneedcfaaDoorW.PrintLast.i32_w]
                        rfl
                      refine Go.Proofs.YtogcjflneedcfaaDoorW.PrintLast.pure_ (i := 18) (N := some 80) (v := ?_) (a' := ?_) #[true, true, true, true, true, true, true, true, true, true, true, true, true, true, true, true, true, true, true, false, false, false, false, false, false, false, false, false, false, false, false, false] rfl rfl (by kernel_rfl) (fun _ _ _ h => h) (Or.inl ⟨by rfl, ?_⟩) ?_ ?_
                      rotate_left
                      · intro w'
                        go_simp
                        with_reducible rfl
                      rotate_left
                      · simp only [Act.put, List.setIfInBounds_toArray, List.set_cons_zero, List.set_cons_succ, Go.Proofs.YtogcjflneedcfaaDoorW.PrintLast.i64_w, Go.Proofs.YtogcjflneedcfaaDoorW.PrintLast.i32_w]
                        rfl
                      refine Go.Proofs.YtogcjflneedcfaaDoorW.PrintLast.pure_ (i := 19) (N := some 81) (v := ?_) (a' := ?_) #[true, true, true, true, true, true, true, true, true, true, true, true, true, true, true, true, true, true, true, true, false, false, false, false, false, false, false, false, false, false, false, false] rfl rfl (by kernel_rfl) (fun _ _ _ h => h) (Or.inl ⟨by rfl, ?_⟩) ?_ ?_
                      rotate_left
                      · intro w'
                        go_simp
                        with_reducible rfl
                      rotate_left
                      · simp only [Act.put, List.setIfInBounds_toArray, List.set_cons_zero, List.set_cons_succ, Go.Proofs.YtogcjflneedcfaaDoorW.PrintLast.i64_w, Go.Proofs.YtogcjflneedcfaaDoorW.PrintLast.i32_w]
                        rfl
                      refine Go.Proofs.YtogcjflneedcfaaDoorW.PrintLast.pure_ (i := 20) (N := some 82) (v := ?_) (a' := ?_) #[true, true, true, true, true, true, true, true, true, true, true, true, true, true, true, true, true, true, true, true, true, false, false, false, false, false, false, false, false, false, false, false] rfl rfl (by kernel_rfl) (fun _ _ _ h => h) (Or.inl ⟨by rfl, ?_⟩) ?_ ?_
                      rotate_left
                      · intro w'
                        go_simp
                        with_reducible rfl
                      rotate_left
                      · simp only [Act.put, List.setIfInBounds_toArray, List.set_cons_zero, List.set_cons_succ, Go.Proofs.YtogcjflneedcfaaDoorW.PrintLast.i64_w, Go.Proofs.YtogcjflneedcfaaDoorW.PrintLast.i32_w]
                        rfl
                      refine Go.Proofs.YtogcjflneedcfaaDoorW.PrintLast.pure_ (i := 21) (N := some 83) (v := ?_) (a' := ?_) #[true, true, true, true, true, true, true, true, true, true, true, true, true, true, true, true, true, true, true, true, true, true, false, false, false, false, false, false, false, false, false, false] rfl rfl (by kernel_rfl) (fun _ _ _ h => h) (Or.inl ⟨by rfl, ?_⟩) ?_ ?_
                      rotate_left
                      · intro w'
                        go_simp
                        with_reducible rfl
                      rotate_left
                      · simp only [Act.put, List.setIfInBounds_toArray, List.set_cons_zero, List.set_cons_succ, Go.Proofs.YtogcjflneedcfaaDoorW.PrintLast.i64_w, Go.Proofs.YtogcjflneedcfaaDoorW.PrintLast.i32_w]
                        rfl
                      refine Go.Proofs.YtogcjflneedcfaaDoorW.PrintLast.take_ (i := 22) (N := some 84) (v := ?_) (a' := ?_) #[true, true, true, true, true, true, true, true, true, true, true, true, true, true, true, true, true, true, true, true, true, true, true, false, false, false, false, false, false, false, false, false] rfl rfl (by kernel_rfl) (fun _ _ _ h => h) (Or.inl ⟨by rfl, ?_⟩) hHeld ?_ ?_
                      rotate_left
                      · rintro w' ⟨s0, s1, s2, s3, s4, s5, s7, t1, t2, t3, t4, t5⟩
                        go_simp
                        with_reducible rfl
                      rotate_left
                      · simp only [Act.put, List.setIfInBounds_toArray, List.set_cons_zero, List.set_cons_succ, Go.Proofs.YtogcjflneedcfaaDoorW.PrintLast.i64_w, Go.Proofs.YtogcjflneedcfaaDoorW.PrintLast.i32_w]
                        rfl
                      refine Go.Proofs.YtogcjflneedcfaaDoorW.PrintLast.pure_ (i := 23) (N := some 85) (v := ?_) (a' := ?_) #[true, true, true, true, true, true, true, true, true, true, true, true, true, true, true, true, true, true, true, true, true, true, true, true, false, false, false, false, false, false, false, false] rfl rfl (by kernel_rfl) (fun _ _ _ h => h) (Or.inl ⟨by rfl, ?_⟩) ?_ ?_
                      rotate_left
                      · intro w'
                        go_simp
                        with_reducible rfl
                      rotate_left
                      · simp only [Act.put, List.setIfInBounds_toArray, List.set_cons_zero, List.set_cons_succ, Go.Proofs.YtogcjflneedcfaaDoorW.PrintLast.i64_w, Go.Proofs.YtogcjflneedcfaaDoorW.PrintLast.i32_w]
                        rfl
                      refine Go.Proofs.YtogcjflneedcfaaDoorW.PrintLast.pure_ (i := 24) (N := some 86) (v := ?_) (a' := ?_) #[true, true, true, true, true, true, true, true, true, true, true, true, true, true, true, true, true, true, true, true, true, true, true, true, true, false, false, false, false, false, false, false] rfl rfl (by kernel_rfl) (fun _ _ _ h => h) (Or.inl ⟨by rfl, ?_⟩) ?_ ?_
                      rotate_left
                      · intro w'
                        go_simp
                        with_reducible rfl
                      rotate_left
                      · simp only [Act.put, List.setIfInBounds_toArray, List.set_cons_zero, List.set_cons_succ, Go.Proofs.YtogcjflneedcfaaDoorW.PrintLast.i64_w, Go.Proofs.YtogcjflneedcfaaDoorW.PrintLast.i32_w]
                        rfl
                      refine Go.Proofs.YtogcjflneedcfaaDoorW.PrintLast.pure_ (i := 25) (N := some 87) (v := ?_) (a' := ?_) #[true, true, true, true, true, true, true, true, true, true, true, true, true, true, true, true, true, true, true, true, true, true, true, true, true, true, false, false, false, false, false, false] rfl rfl (by kernel_rfl) (fun _ _ _ h => h) (Or.inl ⟨by rfl, ?_⟩) ?_ ?_
                      rotate_left
                      · intro w'
                        go_simp
                        with_reducible rfl
                      rotate_left
                      · simp only [Act.put, List.setIfInBounds_toArray, List.set_cons_zero, List.set_cons_succ, Go.Proofs.YtogcjflneedcfaaDoorW.PrintLast.i64_w, Go.Proofs.YtogcjflneedcfaaDoorW.PrintLast.i32_w]
                        rfl
                      refine Go.Proofs.YtogcjflneedcfaaDoorW.PrintLast.pure_ (i := 26) (N := some 88) (v := ?_) (a' := ?_) #[true, true, true, true, true, true, true, true, true, true, true, true, true, true, true, true, true, true, true, true, true, true, true, true, true, true, true, false, false, false, false, false] rfl rfl (by kernel_rfl) (fun _ _ _ h => h) (Or.inl ⟨by rfl, ?_⟩) ?_ ?_
                      rotate_left
                      · intro w'
                        go_simp
                        with_reducible rfl
                      rotate_left
                      · simp only [Act.put, List.setIfInBounds_toArray, List.set_cons_zero, List.set_cons_succ, Go.Proofs.YtogcjflneedcfaaDoorW.PrintLast.i64_w, Go.Proofs.YtogcjflneedcfaaDoorW.PrintLast.i32_w]
                        rfl
                      refine Go.Proofs.YtogcjflneedcfaaDoorW.PrintLast.take_ (i := 27) (N := some 89) (v := ?_) (a' := ?_) #[true, true, true, true, true, true, true, true, true, true, true, true, true, true, true, true, true, true, true, true, true, true, true, true, true, true, true, true, false, false, false, false] rfl rfl (by kernel_rfl) (fun _ _ _ h => h) (Or.inl ⟨by rfl, ?_⟩) hHeld ?_ ?_
                      rotate_left
                      · rintro w' ⟨s0, s1, s2, s3, s4, s5, s7, t1, t2, t3, t4, t5⟩
                        go_simp
                        with_reducible rfl
                      rotate_left
                      · simp only [Act.put, List.setIfInBounds_toArray, List.set_cons_zero, List.set_cons_succ, Go.Proofs.YtogcjflneedcfaaDoorW.PrintLast.i64_w, Go.Proofs.YtogcjflneedcfaaDoorW.PrintLast.i32_w]
                        rfl
                      refine Go.Proofs.YtogcjflneedcfaaDoorW.PrintLast.pure_ (i := 28) (N := some 90) (v := ?_) (a' := ?_) #[true, true, true, true, true, true, true, true, true, true, true, true, true, true, true, true, true, true, true, true, true, true, true, true, true, true, true, true, true, false, false, false] rfl rfl (by kernel_rfl) (fun _ _ _ h => h) (Or.inl ⟨by rfl, ?_⟩) ?_ ?_
                      rotate_left
                      · intro w'
                        go_simp
                        with_reducible rfl
                      rotate_left
                      · simp only [Act.put, List.setIfInBounds_toArray, List.set_cons_zero, List.set_cons_succ, Go.Proofs.YtogcjflneedcfaaDoorW.PrintLast.i64_w, Go.Proofs.YtogcjflneedcfaaDoorW.PrintLast.i32_w]
                        rfl
                      refine Go.Proofs.YtogcjflneedcfaaDoorW.PrintLast.pure_ (i := 29) (N := some 91) (v := ?_) (a' := ?_) #[true, true, true, true, true, true, true, true, true, true, true, true, true, true, true, true, true, true, true, true, true, true, true, true, true, true, true, true, true, true, false, false] rfl rfl (by kernel_rfl) (fun _ _ _ h => h) (Or.inl ⟨by rfl, ?_⟩) ?_ ?_
                      rotate_left
                      · intro w'
                        go_simp
                        with_reducible rfl
                      rotate_left
                      · simp only [Act.put, List.setIfInBounds_toArray, List.set_cons_zero, List.set_cons_succ, Go.Proofs.YtogcjflneedcfaaDoorW.PrintLast.i64_w, Go.Proofs.YtogcjflneedcfaaDoorW.PrintLast.i32_w]
                        rfl
                      refine Go.Proofs.YtogcjflneedcfaaDoorW.PrintLast.pure_ (i := 30) (N := some 92) (v := ?_) (a' := ?_) #[true, true, true, true, true, true, true, true, true, true, true, true, true, true, true, true, true, true, true, true, true, true, true, true, true, true, true, true, true, true, true, false] rfl rfl (by kernel_rfl) (fun _ _ _ h => h) (Or.inl ⟨by rfl, ?_⟩) ?_ ?_
                      rotate_left
                      · intro w'
                        go_simp
                        with_reducible rfl
                      rotate_left
                      · simp only [Act.put, List.setIfInBounds_toArray, List.set_cons_zero, List.set_cons_succ, Go.Proofs.YtogcjflneedcfaaDoorW.PrintLast.i64_w, Go.Proofs.YtogcjflneedcfaaDoorW.PrintLast.i32_w]
                        rfl
                      refine Go.Proofs.YtogcjflneedcfaaDoorW.PrintLast.pure_ (i := 31) (N := some 9) (v := ?_) (a' := ?_) #[true, true, true, true, true, true, true, true, true, true, true, true, true, true, true, true, true, true, true, true, true, true, true, true, true, true, true, true, true, true, true, true] rfl rfl (by kernel_rfl) (fun _ _ _ h => h) (Or.inl ⟨by rfl, ?_⟩) ?_ ?_
                      rotate_left
                      · intro w'
                        go_simp
                        with_reducible rfl
                      rotate_left
                      · simp only [Act.put, List.setIfInBounds_toArray, List.set_cons_zero, List.set_cons_succ, Go.Proofs.YtogcjflneedcfaaDoorW.PrintLast.i64_w, Go.Proofs.YtogcjflneedcfaaDoorW.PrintLast.i32_w]
                        rfl
                      refine Go.Proofs.YtogcjflneedcfaaDoorW.PrintLast.done_ (by kernel_rfl) ?_
                      clear hHeld x1 x2 x3 x4 x5 y0 y1 y2 y3 y4 y5 y7
                      go_wp2_with fail
                      go_roundw
                      case rel => exact ⟨m + 1, by go_num, by omega, by rw [anyB_succ]; simp only [HA.out]; rw [HWT.out, HQ2.out, HQ3.out, HQ4.out]; simp, HBi.out.drew⟩
                      case measure => simp [intOf]; omega
              · have u1 : decide (m < T.length) = false := decide_eq_false hml
                have u2 : ¬ ((m : Int) < T.length) := by omega
                obtain rfl : m = T.length := by omega
                have hwt : anyB (fun j => match T[j]? with | some a => a.tx == tx && !a.g && obEq a.o r.o | none => false) T.length = true := by obtain ⟨q, a, h1, h2, h3, h4⟩ := HW.out; exact anyB_true.2 ⟨q, (List.getElem?_eq_some_iff.1 h1).1, by simp only [h1]; rw [h3, h4, h2]; simp⟩
                rw [hwt]
                clear hwt
                go_wp2_with fail
                go_roundw
                case rel => exact ⟨k + 1, by go_num, by omega, HBi.out⟩
                case measure => simp [intOf]; omega
      · have t3 : (r.tx == tx) = false := by simpa using htx
        have t3' : decide (r.tx = tx) = false := decide_eq_false htx
        clear htx
        go_wp2_with fail
        go_roundw
        case rel => exact ⟨k + 1, by go_num, by omega, HB.out⟩
        case measure => simp [intOf]; omega
    · have t1 : decide (k < T1.length) = false := decide_eq_false hlt
      have t2 : ¬ ((k : Int) < T1.length) := by omega
      clear hlt
      go_wp2_with fail
      go_loopw [11] (fun i wr => LSi T.length we i wr) (fun i _ => T.length - (intOf i).toNat)
      case atStart => exact ⟨0, rfl, Nat.zero_le _, HB.out⟩
      case round =>
        clear HB
        obtain ⟨k, rfl, hk, hb⟩ := hrel
        have HB := Lib.hid hb
        clear hb
        by_cases hlt : k < T.length
        · have t1 : decide (k < T.length) = true := decide_eq_true hlt
          have t2 : (k : Int) < T.length := by omega
          obtain ⟨r, hr⟩ : ∃ r, T[k]? = some r := ⟨T[k], List.getElem?_eq_getElem hlt⟩
          obtain ⟨g, rfl, hreq⟩ := (HRE.out.below HB.out).get hr
          obtain ⟨x0, x1, x2, x3, x4, x5, x6, x7, x8⟩ := hreq
          have HR := Lib.hid hr
          clear hr
          have HW2 := Lib.hid (HRE.out.below HB.out)
          have HT2 := Lib.hid (HTE.out.below HB.out)
          have HG2 := Lib.hid (St.gl ⟨HB.out, HGE.out⟩)
          by_cases htx : r.tx = tx
          rotate_left
          · have t3 : (r.tx == tx) = false := by simpa using htx
            clear htx
            go_wp2_with fail
            refine Go.Proofs.YtogcjflneedcfaaDoorW.PrintLast.start_ (n := 38) (S := fun v => v.cell? ⟨g, k * 9, none⟩ = some (.int .i64 r.tx) ∧ v.cell? ⟨g, k * 9 + 1, none⟩ = some (.int .i64 r.o.s) ∧ v.cell? ⟨g, k * 9 + 2, none⟩ = some (.string r.o.t) ∧ v.cell? ⟨g, k * 9 + 3, none⟩ = some (.string r.o.l) ∧ v.cell? ⟨g, k * 9 + 4, none⟩ = some (.string r.o.u) ∧ v.cell? ⟨g, k * 9 + 5, none⟩ = some (.bool r.o.e) ∧ v.cell? ⟨g, k * 9 + 6, none⟩ = some (.int .i64 r.m) ∧ v.cell? ⟨g, k * 9 + 7, none⟩ = some (.bool r.g) ∧ v.cell? ⟨g, k * 9 + 8, none⟩ = some (.bool r.s)) (ds := [37]) #[false, false, false, false, false, false, false, false, false, false, false, false, false, false, false, false, false, false, false, false, false, false, false, false, false, false, false, false, false, false, false, false, false, false, false, false, false, false] (by kernel_rfl) rfl rfl ⟨x0, x1, x2, x3, x4, x5, x6, x7, x8⟩ (fun hHeld => ?_)
            refine Go.Proofs.YtogcjflneedcfaaDoorW.PrintLast.pure_ (i := 0) (N := some 101) (v := ?_) (a' := ?_) #[true, false, false, false, false, false, false, false, false, false, false, false, false, false, false, false, false, false, false, false, false, false, false, false, false, false, false, false, false, false, false, false, false, false, false, false, false, false] rfl rfl (by kernel_rfl) (fun _ _ _ h => h) (Or.inl ⟨by rfl, ?_⟩) ?_ ?_
            rotate_left
            · intro w'
              go_simp
              with_reducible rfl
            rotate_left
            · simp only [Act.put, List.setIfInBounds_toArray, List.set_cons_zero, List.set_cons_succ, Go.Proofs.YtogcjflneedcfaaDoorW.PrintLast.i64_w, Go.Proofs.YtogcjflneedcfaaDoorW.PrintLast.i32_w]
              rfl
            refine Go.Proofs.YtogcjflneedcfaaDoorW.PrintLast.pure_ (i := 1) (N := some 102) (v := ?_) (a' := ?_) #[true, true, false, false, false, false, false, false, false, false, false, false, false, false, false, false, false, false, false, false, false, false, false, false, false, false, false, false, false, false, false, false, false, false, false, false, false, false] rfl rfl (by kernel_rfl) (fun _ _ _ h => h) (Or.inl ⟨by rfl, ?_⟩) ?_ ?_
            rotate_left
            · intro w'
              go_simp
              with_reducible rfl
            rotate_left
            · simp only [Act.put, List.setIfInBounds_toArray, List.set_cons_zero, List.set_cons_succ, Go.Proofs.YtogcjflneedcfaaDoorW.PrintLast.i64_w, Go.Proofs.YtogcjflneedcfaaDoorW.PrintLast.i32_w]
              rfl
            refine Go.Proofs.YtogcjflneedcfaaDoorW.PrintLast.pure_ (i := 2) (N := some 103) (v := ?_) (a' := ?_) #[true, true, true, false, false, false, false, false, false, false, false, false, false, false, false, false, false, false, false, false, false, false, false, false, false, false, false, false, false, false, false, false, false, false, false, false, false, false] rfl rfl (by kernel_rfl) (fun _ _ _ h => h) (Or.inl ⟨by rfl, ?_⟩) ?_ ?_
            rotate_left
            · intro w'
              go_simp
              with_reducible rfl
            rotate_left
            · simp only [Act.put, List.setIfInBounds_toArray, List.set_cons_zero, List.set_cons_succ, Go.Proofs.YtogcjflneedcfaaDoorW.PrintLast.i64_w, Go.Proofs.YtogcjflneedcfaaDoorW.PrintLast.i32_w]
              rfl
            refine Go.Proofs.YtogcjflneedcfaaDoorW.PrintLast.pure_ (i := 3) (N := some 104) (v := ?_) (a' := ?_) #[true, true, true, true, false, false, false, false, false, false, false, false, false, false, false, false, false, false, false, false, false, false, false, false, false, false, false, false, false, false, false, false, false, false, false, false, false, false] rfl rfl (by kernel_rfl) (fun _ _ _ h => h) (Or.inl ⟨by rfl, ?_⟩) ?_ ?_
            rotate_left
            · intro w'
              go_simp
              with_reducible rfl
            rotate_left
            · simp only [Act.put, List.setIfInBounds_toArray, List.set_cons_zero, List.set_cons_succ, Go.Proofs.YtogcjflneedcfaaDoorW.PrintLast.i64_w, Go.Proofs.YtogcjflneedcfaaDoorW.PrintLast.i32_w]
              rfl
            refine Go.Proofs.YtogcjflneedcfaaDoorW.PrintLast.take_ (i := 4) (N := some 105) (v := ?_) (a' := ?_) #[true, true, true, true, true, false, false, false, false, false, false, false, false, false, false, false, false, false, false, false, false, false, false, false, false, false, false, false, false, false, false, false, false, false, false, false, false, false] rfl rfl (by kernel_rfl) (fun _ _ _ h => h) (Or.inl ⟨by rfl, ?_⟩) hHeld ?_ ?_
            rotate_left
            · rintro w' ⟨s0, s1, s2, s3, s4, s5, s6, s7, s8⟩
              go_simp
              with_reducible rfl
            rotate_left
            · simp only [Act.put, List.setIfInBounds_toArray, List.set_cons_zero, List.set_cons_succ, Go.Proofs.YtogcjflneedcfaaDoorW.PrintLast.i64_w, Go.Proofs.YtogcjflneedcfaaDoorW.PrintLast.i32_w]
              rfl
            refine Go.Proofs.YtogcjflneedcfaaDoorW.PrintLast.pure_ (i := 5) (N := some 106) (v := ?_) (a' := ?_) #[true, true, true, true, true, true, false, false, false, false, false, false, false, false, false, false, false, false, false, false, false, false, false, false, false, false, false, false, false, false, false, false, false, false, false, false, false, false] rfl rfl (by kernel_rfl) (fun _ _ _ h => h) (Or.inl ⟨by rfl, ?_⟩) ?_ ?_
            rotate_left
            · intro w'
              go_simp
              with_reducible rfl
            rotate_left
            · simp only [Act.put, List.setIfInBounds_toArray, List.set_cons_zero, List.set_cons_succ, Go.Proofs.YtogcjflneedcfaaDoorW.PrintLast.i64_w, Go.Proofs.YtogcjflneedcfaaDoorW.PrintLast.i32_w]
              rfl
            refine Go.Proofs.YtogcjflneedcfaaDoorW.PrintLast.pure_ (i := 6) (N := some 107) (v := ?_) (a' := ?_) #[true, true, true, true, true, true, true, false, false, false, false, false, false, false, false, false, false, false, false, false, false, false, false, false, false, false, false, false, false, false, false, false, false, false, false, false, false, false] rfl rfl (by kernel_rfl) (fun _ _ _ h => h) (Or.inl ⟨by rfl, ?_⟩) ?_ ?_
            rotate_left
            · intro w'
              go_simp
              with_reducible rfl
            rotate_left
            · simp only [Act.put, List.setIfInBounds_toArray, List.set_cons_zero, List.set_cons_succ, Go.Proofs.YtogcjflneedcfaaDoorW.PrintLast.i64_w, Go.Proofs.YtogcjflneedcfaaDoorW.PrintLast.i32_w]
              rfl
            refine Go.Proofs.YtogcjflneedcfaaDoorW.PrintLast.pure_ (i := 7) (N := some 108) (v := ?_) (a' := ?_) #[true, true, true, true, true, true, true, true, false, false, false, false, false, false, false, false, false, false, false, false, false, false, false, false, false, false, false, false, false, false, false, false, false, false, false, false, false, false] rfl rfl (by kernel_rfl) (fun _ _ _ h => h) (Or.inl ⟨by rfl, ?_⟩) ?_ ?_
            rotate_left
            · intro w'
              go_simp
              with_reducible rfl
            rotate_left
            · simp only [Act.put, List.setIfInBounds_toArray, List.set_cons_zero, List.set_cons_succ, Go.Proofs.YtogcjflneedcfaaDoorW.PrintLast.i64_w, Go.Proofs.YtogcjflneedcfaaDoorW.PrintLast.i32_w]
              rfl
            refine Go.Proofs.YtogcjflneedcfaaDoorW.PrintLast.pure_ (i := 8) (N := some 109) (v := _) (a' := ?_) #[true, true, true, true, true, true, true, true, true, false, false, false, false, false, false, false, false, false, false, false, false, false, false, false, false, false, false, false, false, false, false, false, false, false, false, false, false, false] rfl rfl (by kernel_rfl) (fun _ _ _ h => h) (Or.inr ⟨by rfl, rfl⟩) ?_ ?_
            rotate_left
            · simp only [Act.put, List.setIfInBounds_toArray, List.set_cons_zero, List.set_cons_succ, Go.Proofs.YtogcjflneedcfaaDoorW.PrintLast.i64_w, Go.Proofs.YtogcjflneedcfaaDoorW.PrintLast.i32_w]
              rfl
            refine Go.Proofs.YtogcjflneedcfaaDoorW.PrintLast.pure_ (i := 9) (N := some 110) (v := _) (a' := ?_) #[true, true, true, true, true, true, true, true, true, true, false, false, false, false, false, false, false, false, false, false, false, false, false, false, false, false, false, false, false, false, false, false, false, false, false, false, false, false] rfl rfl (by kernel_rfl) (fun _ _ _ h => h) (Or.inr ⟨by rfl, rfl⟩) ?_ ?_
            rotate_left
            · simp only [Act.put, List.setIfInBounds_toArray, List.set_cons_zero, List.set_cons_succ, Go.Proofs.YtogcjflneedcfaaDoorW.PrintLast.i64_w, Go.Proofs.YtogcjflneedcfaaDoorW.PrintLast.i32_w]
              rfl
            refine Go.Proofs.YtogcjflneedcfaaDoorW.PrintLast.pure_ (i := 10) (N := some 111) (v := _) (a' := ?_) #[true, true, true, true, true, true, true, true, true, true, true, false, false, false, false, false, false, false, false, false, false, false, false, false, false, false, false, false, false, false, false, false, false, false, false, false, false, false] rfl rfl (by kernel_rfl) (fun _ _ _ h => h) (Or.inr ⟨by rfl, rfl⟩) ?_ ?_
            rotate_left
            · simp only [Act.put, List.setIfInBounds_toArray, List.set_cons_zero, List.set_cons_succ, Go.Proofs.YtogcjflneedcfaaDoorW.PrintLast.i64_w, Go.Proofs.YtogcjflneedcfaaDoorW.PrintLast.i32_w]
              rfl
            refine Go.Proofs.YtogcjflneedcfaaDoorW.PrintLast.pure_ (i := 11) (N := some 112) (v := _) (a' := ?_) #[true, true, true, true, true, true, true, true, true, true, true, true, false, false, false, false, false, false, false, false, false, false, false, false, false, false, false, false, false, false, false, false, false, false, false, false, false, false] rfl rfl (by kernel_rfl) (fun _ _ _ h => h) (Or.inr ⟨by rfl, rfl⟩) ?_ ?_
            rotate_left
            · simp only [Act.put, List.setIfInBounds_toArray, List.set_cons_zero, List.set_cons_succ, Go.Proofs.YtogcjflneedcfaaDoorW.PrintLast.i64_w, Go.Proofs.YtogcjflneedcfaaDoorW.PrintLast.i32_w]
              rfl
            refine Go.Proofs.YtogcjflneedcfaaDoorW.PrintLast.pure_ (i := 12) (N := some 113) (v := _) (a' := ?_) #[true, true, true, true, true, true, true, true, true, true, true, true, true, false, false, false, false, false, false, false, false, false, false, false, false, false, false, false, false, false, false, false, false, false, false, false, false, false] rfl rfl (by kernel_rfl) (fun _ _ _ h => h) (Or.inr ⟨by rfl, rfl⟩) ?_ ?_
            rotate_left
            · simp only [Act.put, List.setIfInBounds_toArray, List.set_cons_zero, List.set_cons_succ, Go.Proofs.YtogcjflneedcfaaDoorW.PrintLast.i64_w, Go.Proofs.YtogcjflneedcfaaDoorW.PrintLast.i32_w]
              rfl
            refine Go.Proofs.YtogcjflneedcfaaDoorW.PrintLast.pure_ (i := 13) (N := some 114) (v := ?_) (a' := ?_) #[true, true, true, true, true, true, true, true, true, true, true, true, true, true, false, false, false, false, false, false, false, false, false, false, false, false, false, false, false, false, false, false, false, false, false, false, false, false] rfl rfl (by kernel_rfl) (fun _ _ _ h => h) (Or.inl ⟨by rfl, ?_⟩) ?_ ?_
            rotate_left
            · intro w'
              go_simp
              with_reducible rfl
            rotate_left
            · simp only [Act.put, List.setIfInBounds_toArray, List.set_cons_zero, List.set_cons_succ, Go.Proofs.YtogcjflneedcfaaDoorW.PrintLast.i64_w, Go.Proofs.YtogcjflneedcfaaDoorW.PrintLast.i32_w]
              rfl
            refine Go.Proofs.YtogcjflneedcfaaDoorW.PrintLast.pure_ (i := 14) (N := some 115) (v := ?_) (a' := ?_) #[true, true, true, true, true, true, true, true, true, true, true, true, true, true, true, false, false, false, false, false, false, false, false, false, false, false, false, false, false, false, false, false, false, false, false, false, false, false] rfl rfl (by kernel_rfl) (fun _ _ _ h => h) (Or.inl ⟨by rfl, ?_⟩) ?_ ?_
            rotate_left
            · intro w'
              go_simp
              with_reducible rfl
            rotate_left
            · simp only [Act.put, List.setIfInBounds_toArray, List.set_cons_zero, List.set_cons_succ, Go.Proofs.YtogcjflneedcfaaDoorW.PrintLast.i64_w, Go.Proofs.YtogcjflneedcfaaDoorW.PrintLast.i32_w]
              rfl
            refine Go.Proofs.YtogcjflneedcfaaDoorW.PrintLast.pure_ (i := 15) (N := some 116) (v := _) (a' := ?_) #[true, true, true, true, true, true, true, true, true, true, true, true, true, true, true, true, false, false, false, false, false, false, false, false, false, false, false, false, false, false, false, false, false, false, false, false, false, false] rfl rfl (by kernel_rfl) (fun _ _ _ h => h) (Or.inr ⟨by rfl, rfl⟩) ?_ ?_
            rotate_left
            · simp only [Act.put, List.setIfInBounds_toArray, List.set_cons_zero, List.set_cons_succ, Go.Proofs.YtogcjflneedcfaaDoorW.PrintLast.i64_w, Go.Proofs.YtogcjflneedcfaaDoorW.PrintLast.i32_w]
              rfl
            refine Go.Proofs.YtogcjflneedcfaaDoorW.PrintLast.pure_ (i := 16) (N := some 117) (v := _) (a' := ?_) #[true, true, true, true, true, true, true, true, true, true, true, true, true, true, true, true, true, false, false, false, false, false, false, false, false, false, false, false, false, false, false, false, false, false, false, false, false, false] rfl rfl (by kernel_rfl) (fun _ _ _ h => h) (Or.inr ⟨by rfl, rfl⟩) ?_ ?_
            rotate_left
            · simp only [Act.put, List.setIfInBounds_toArray, List.set_cons_zero, List.set_cons_succ, Go.Proofs.YtogcjflneedcfaaDoorW.PrintLast.i64_w, Go.Proofs.YtogcjflneedcfaaDoorW.PrintLast.i32_w]
              rfl
            refine Go.Proofs.YtogcjflneedcfaaDoorW.PrintLast.pure_ (i := 17) (N := some 118) (v := _) (a' := ?_) #[true, true, true, true, true, true, true, true, true, true, true, true, true, true, true, true, true, true, false, false, false, false, false, false, false, false, false, false, false, false, false, false, false, false, false, false, false, false] rfl rfl (by kernel_rfl) (fun _ _ _ h => h) (Or.inr ⟨by rfl, rfl⟩) ?_ ?_
            rotate_left
            · simp only [Act.put, List.setIfInBounds_toArray, List.set_cons_zero, List.set_cons_succ, Go.Proofs.YtogcjflneedcfaaDoorW.PrintLast.i64_w, Go.Proofs.YtogcjflneedcfaaDoorW.PrintLast.i32_w]
              rfl
            refine Go.Proofs.YtogcjflneedcfaaDoorW.PrintLast.pure_ (i := 18) (N := some 119) (v := _) (a' := ?_) #[true, true, true, true, true, true, true, true, true, true, true, true, true, true, true, true, true, true, true, false, false, false, false, false, false, false, false, false, false, false, false, false, false, false, false, false, false, false] rfl rfl (by kernel_rfl) (fun _ _ _ h => h) (Or.inr ⟨by rfl, rfl⟩) ?_ ?_
            rotate_left
            · simp only [Act.put, List.setIfInBounds_toArray, List.set_cons_zero, List.set_cons_succ, Go.Proofs.YtogcjflneedcfaaDoorW.PrintLast.i64_w, Go.Proofs.YtogcjflneedcfaaDoorW.PrintLast.i32_w]
              rfl
            refine Go.Proofs.YtogcjflneedcfaaDoorW.PrintLast.pure_ (i := 19) (N := some 120) (v := _) (a' := ?_) #[true, true, true, true, true, true, true, true, true, true, true, true, true, true, true, true, true, true, true, true, false, false, false, false, false, false, false, false, false, false, false, false, false, false, false, false, false, false] rfl rfl (by kernel_rfl) (fun _ _ _ h => h) (Or.inr ⟨by rfl, rfl⟩) ?_ ?_
            rotate_left
            · simp only [Act.put, List.setIfInBounds_toArray, List.set_cons_zero, List.set_cons_succ, Go.Proofs.YtogcjflneedcfaaDoorW.PrintLast.i64_w, Go.Proofs.YtogcjflneedcfaaDoorW.PrintLast.i32_w]
              rfl
            refine Go.Proofs.YtogcjflneedcfaaDoorW.PrintLast.pure_ (i := 20) (N := some 121) (v := _) (a' := ?_) #[true, true, true, true, true, true, true, true, true, true, true, true, true, true, true, true, true, true, true, true, true, false, false, false, false, false, false, false, false, false, false, false, false, false, false, false, false, false] rfl rfl (by kernel_rfl) (fun _ _ _ h => h) (Or.inr ⟨by rfl, rfl⟩) ?_ ?_
            rotate_left
            · simp only [Act.put, List.setIfInBounds_toArray, List.set_cons_zero, List.set_cons_succ, Go.Proofs.YtogcjflneedcfaaDoorW.PrintLast.i64_w, Go.Proofs.YtogcjflneedcfaaDoorW.PrintLast.i32_w]
              rfl
            refine Go.Proofs.YtogcjflneedcfaaDoorW.PrintLast.pure_ (i := 21) (N := some 122) (v := ?_) (a' := ?_) #[true, true, true, true, true, true, true, true, true, true, true, true, true, true, true, true, true, true, true, true, true, true, false, false, false, false, false, false, false, false, false, false, false, false, false, false, false, false] rfl rfl (by kernel_rfl) (fun _ _ _ h => h) (Or.inl ⟨by rfl, ?_⟩) ?_ ?_
            rotate_left
            · intro w'
              go_simp
              with_reducible rfl
            rotate_left
            · simp only [Act.put, List.setIfInBounds_toArray, List.set_cons_zero, List.set_cons_succ, Go.Proofs.YtogcjflneedcfaaDoorW.PrintLast.i64_w, Go.Proofs.YtogcjflneedcfaaDoorW.PrintLast.i32_w]
              rfl
            refine Go.Proofs.YtogcjflneedcfaaDoorW.PrintLast.pure_ (i := 22) (N := some 123) (v := ?_) (a' := ?_) #[true, true, true, true, true, true, true, true, true, true, true, true, true, true, true, true, true, true, true, true, true, true, true, false, false, false, false, false, false, false, false, false, false, false, false, false, false, false] rfl rfl (by kernel_rfl) (fun _ _ _ h => h) (Or.inl ⟨by rfl, ?_⟩) ?_ ?_
            rotate_left
            · intro w'
              go_simp
              with_reducible rfl
            rotate_left
            · simp only [Act.put, List.setIfInBounds_toArray, List.set_cons_zero, List.set_cons_succ, Go.Proofs.YtogcjflneedcfaaDoorW.PrintLast.i64_w, Go.Proofs.YtogcjflneedcfaaDoorW.PrintLast.i32_w]
              rfl
            refine Go.Proofs.YtogcjflneedcfaaDoorW.PrintLast.pure_ (i := 23) (N := some 124) (v := _) (a' := ?_) #[true, true, true, true, true, true, true, true, true, true, true, true, true, true, true, true, true, true, true, true, true, true, true, true, false, false, false, false, false, false, false, false, false, false, false, false, false, false] rfl rfl (by kernel_rfl) (fun _ _ _ h => h) (Or.inr ⟨by rfl, rfl⟩) ?_ ?_
            rotate_left
            · simp only [Act.put, List.setIfInBounds_toArray, List.set_cons_zero, List.set_cons_succ, Go.Proofs.YtogcjflneedcfaaDoorW.PrintLast.i64_w, Go.Proofs.YtogcjflneedcfaaDoorW.PrintLast.i32_w]
              rfl
            refine Go.Proofs.YtogcjflneedcfaaDoorW.PrintLast.pure_ (i := 24) (N := some 125) (v := _) (a' := ?_) #[true, true, true, true, true, true, true, true, true, true, true, true, true, true, true, true, true, true, true, true, true, true, true, true, true, false, false, false, false, false, false, false, false, false, false, false, false, false] rfl rfl (by kernel_rfl) (fun _ _ _ h => h) (Or.inr ⟨by rfl, rfl⟩) ?_ ?_
            rotate_left
            · simp only [Act.put, List.setIfInBounds_toArray, List.set_cons_zero, List.set_cons_succ, Go.Proofs.YtogcjflneedcfaaDoorW.PrintLast.i64_w, Go.Proofs.YtogcjflneedcfaaDoorW.PrintLast.i32_w]
              rfl
            refine Go.Proofs.YtogcjflneedcfaaDoorW.PrintLast.pure_ (i := 25) (N := some 126) (v := _) (a' := ?_) #[true, true, true, true, true, true, true, true, true, true, true, true, true, true, true, true, true, true, true, true, true, true, true, true, true, true, false, false, false, false, false, false, false, false, false, false, false, false] rfl rfl (by kernel_rfl) (fun _ _ _ h => h) (Or.inr ⟨by rfl, rfl⟩) ?_ ?_
            rotate_left
            · simp only [Act.put, List.setIfInBounds_toArray, List.set_cons_zero, List.set_cons_succ, Go.Proofs.YtogcjflneedcfaaDoorW.PrintLast.i64_w, Go.Proofs.YtogcjflneedcfaaDoorW.PrintLast.i32_w]
              rfl
            refine Go.Proofs.YtogcjflneedcfaaDoorW.PrintLast.pure_ (i := 26) (N := some 127) (v := _) (a' := ?_) #[true, true, true, true, true, true, true, true, true, true, true, true, true, true, true, true, true, true, true, true, true, true, true, true, true, true, true, false, false, false, false, false, false, false, false, false, false, false] rfl rfl (by kernel_rfl) (fun _ _ _ h => h) (Or.inr ⟨by rfl, rfl⟩) ?_ ?_
            rotate_left
            · simp only [Act.put, List.setIfInBounds_toArray, List.set_cons_zero, List.set_cons_succ, Go.Proofs.YtogcjflneedcfaaDoorW.PrintLast.i64_w, Go.Proofs.YtogcjflneedcfaaDoorW.PrintLast.i32_w]
              rfl
            refine Go.Proofs.YtogcjflneedcfaaDoorW.PrintLast.pure_ (i := 27) (N := some 128) (v := _) (a' := ?_) #[true, true, true, true, true, true, true, true, true, true, true, true, true, true, true, true, true, true, true, true, true, true, true, true, true, true, true, true, false, false, false, false, false, false, false, false, false, false] rfl rfl (by kernel_rfl) (fun _ _ _ h => h) (Or.inr ⟨by rfl, rfl⟩) ?_ ?_
            rotate_left
            · simp only [Act.put, List.setIfInBounds_toArray, List.set_cons_zero, List.set_cons_succ, Go.Proofs.YtogcjflneedcfaaDoorW.PrintLast.i64_w, Go.Proofs.YtogcjflneedcfaaDoorW.PrintLast.i32_w]
              rfl
            refine Go.Proofs.YtogcjflneedcfaaDoorW.PrintLast.pure_ (i := 28) (N := some 129) (v := _) (a' := ?_) #[true, true, true, true, true, true, true, true, true, true, true, true, true, true, true, true, true, true, true, true, true, true, true, true, true, true, true, true, true, false, false, false, false, false, false, false, false, false] rfl rfl (by kernel_rfl) (fun _ _ _ h => h) (Or.inr ⟨by rfl, rfl⟩) ?_ ?_
            rotate_left
            · simp only [Act.put, List.setIfInBounds_toArray, List.set_cons_zero, List.set_cons_succ, Go.Proofs.YtogcjflneedcfaaDoorW.PrintLast.i64_w, Go.Proofs.YtogcjflneedcfaaDoorW.PrintLast.i32_w]
              rfl
            refine Go.Proofs.YtogcjflneedcfaaDoorW.PrintLast.pure_ (i := 29) (N := some 130) (v := _) (a' := ?_) #[true, true, true, true, true, true, true, true, true, true, true, true, true, true, true, true, true, true, true, true, true, true, true, true, true, true, true, true, true, true, false, false, false, false, false, false, false, false] rfl rfl (by kernel_rfl) (fun _ _ _ h => h) (Or.inr ⟨by rfl, rfl⟩) ?_ ?_
            rotate_left
            · simp only [Act.put, List.setIfInBounds_toArray, List.set_cons_zero, List.set_cons_succ, Go.Proofs.YtogcjflneedcfaaDoorW.PrintLast.i64_w, Go.Proofs.YtogcjflneedcfaaDoorW.PrintLast.i32_w]
              rfl
            refine Go.Proofs.YtogcjflneedcfaaDoorW.PrintLast.pure_ (i := 30) (N := some 131) (v := _) (a' := ?_) #[true, true, true, true, true, true, true, true, true, true, true, true, true, true, true, true, true, true, true, true, true, true, true, true, true, true, true, true, true, true, true, false, false, false, false, false, false, false] rfl rfl (by kernel_rfl) (fun _ _ _ h => h) (Or.inr ⟨by rfl, rfl⟩) ?_ ?_
            rotate_left
            · simp only [Act.put, List.setIfInBounds_toArray, List.set_cons_zero, List.set_cons_succ, Go.Proofs.YtogcjflneedcfaaDoorW.PrintLast.i64_w, Go.Proofs.YtogcjflneedcfaaDoorW.PrintLast.i32_w]
              rfl
            refine Go.Proofs.YtogcjflneedcfaaDoorW.PrintLast.pure_ (i := 31) (N := some 132) (v := _) (a' := ?_) #[true, true, true, true, true, true, true, true, true, true, true, true, true, true, true, true, true, true, true, true, true, true, true, true, true, true, true, true, true, true, true, true, false, false, false, false, false, false] rfl rfl (by kernel_rfl) (fun _ _ _ h => h) (Or.inr ⟨by rfl, rfl⟩) ?_ ?_
            rotate_left
            · simp only [Act.put, List.setIfInBounds_toArray, List.set_cons_zero, List.set_cons_succ, Go.Proofs.YtogcjflneedcfaaDoorW.PrintLast.i64_w, Go.Proofs.YtogcjflneedcfaaDoorW.PrintLast.i32_w]
              rfl
            refine Go.Proofs.YtogcjflneedcfaaDoorW.PrintLast.pure_ (i := 32) (N := some 133) (v := _) (a' := ?_) #[true, true, true, true, true, true, true, true, true, true, true, true, true, true, true, true, true, true, true, true, true, true, true, true, true, true, true, true, true, true, true, true, true, false, false, false, false, false] rfl rfl (by kernel_rfl) (fun _ _ _ h => h) (Or.inr ⟨by rfl, rfl⟩) ?_ ?_
            rotate_left
            · simp only [Act.put, List.setIfInBounds_toArray, List.set_cons_zero, List.set_cons_succ, Go.Proofs.YtogcjflneedcfaaDoorW.PrintLast.i64_w, Go.Proofs.YtogcjflneedcfaaDoorW.PrintLast.i32_w]
              rfl
            refine Go.Proofs.YtogcjflneedcfaaDoorW.PrintLast.pure_ (i := 33) (N := some 134) (v := _) (a' := ?_) #[true, true, true, true, true, true, true, true, true, true, true, true, true, true, true, true, true, true, true, true, true, true, true, true, true, true, true, true, true, true, true, true, true, true, false, false, false, false] rfl rfl (by kernel_rfl) (fun _ _ _ h => h) (Or.inr ⟨by rfl, rfl⟩) ?_ ?_
            rotate_left
            · simp only [Act.put, List.setIfInBounds_toArray, List.set_cons_zero, List.set_cons_succ, Go.Proofs.YtogcjflneedcfaaDoorW.PrintLast.i64_w, Go.Proofs.YtogcjflneedcfaaDoorW.PrintLast.i32_w]
              rfl
            refine Go.Proofs.YtogcjflneedcfaaDoorW.PrintLast.pure_ (i := 34) (N := some 135) (v := _) (a' := ?_) #[true, true, true, true, true, true, true, true, true, true, true, true, true, true, true, true, true, true, true, true, true, true, true, true, true, true, true, true, true, true, true, true, true, true, true, false, false, false] rfl rfl (by kernel_rfl) (fun _ _ _ h => h) (Or.inr ⟨by rfl, rfl⟩) ?_ ?_
            rotate_left
            · simp only [Act.put, List.setIfInBounds_toArray, List.set_cons_zero, List.set_cons_succ, Go.Proofs.YtogcjflneedcfaaDoorW.PrintLast.i64_w, Go.Proofs.YtogcjflneedcfaaDoorW.PrintLast.i32_w]
              rfl
            refine Go.Proofs.YtogcjflneedcfaaDoorW.PrintLast.pure_ (i := 35) (N := some 136) (v := _) (a' := ?_) #[true, true, true, true, true, true, true, true, true, true, true, true, true, true, true, true, true, true, true, true, true, true, true, true, true, true, true, true, true, true, true, true, true, true, true, true, false, false] rfl rfl (by kernel_rfl) (fun _ _ _ h => h) (Or.inr ⟨by rfl, rfl⟩) ?_ ?_
            rotate_left
            · simp only [Act.put, List.setIfInBounds_toArray, List.set_cons_zero, List.set_cons_succ, Go.Proofs.YtogcjflneedcfaaDoorW.PrintLast.i64_w, Go.Proofs.YtogcjflneedcfaaDoorW.PrintLast.i32_w]
              rfl
            refine Go.Proofs.YtogcjflneedcfaaDoorW.PrintLast.pure_ (i := 36) (N := some 137) (v := _) (a' := ?_) #[true, true, true, true, true, true, true, true, true, true, true, true, true, true, true, true, true, true, true, true, true, true, true, true, true, true, true, true, true, true, true, true, true, true, true, true, true, false] rfl rfl (by kernel_rfl) (fun _ _ _ h => h) (Or.inr ⟨by rfl, rfl⟩) ?_ ?_
            rotate_left
            · simp only [Act.put, List.setIfInBounds_toArray, List.set_cons_zero, List.set_cons_succ, Go.Proofs.YtogcjflneedcfaaDoorW.PrintLast.i64_w, Go.Proofs.YtogcjflneedcfaaDoorW.PrintLast.i32_w]
              rfl
            refine Go.Proofs.YtogcjflneedcfaaDoorW.PrintLast.pure_ (i := 37) (N := some 138) (v := ?_) (a' := ?_) #[true, true, true, true, true, true, true, true, true, true, true, true, true, true, true, true, true, true, true, true, true, true, true, true, true, true, true, true, true, true, true, true, true, true, true, true, true, true] rfl rfl (by kernel_rfl) (fun _ _ _ h => h) (Or.inl ⟨by rfl, ?_⟩) ?_ ?_
            rotate_left
            · intro w'
              go_simp
              with_reducible rfl
            rotate_left
            · simp only [Act.put, List.setIfInBounds_toArray, List.set_cons_zero, List.set_cons_succ, Go.Proofs.YtogcjflneedcfaaDoorW.PrintLast.i64_w, Go.Proofs.YtogcjflneedcfaaDoorW.PrintLast.i32_w]
              rfl
            refine Go.Proofs.YtogcjflneedcfaaDoorW.PrintLast.done_ (by kernel_rfl) ?_
            clear hHeld x0 x1 x2 x3 x4 x5 x6 x7 x8
            go_wp2_with fail
            go_roundw
            case rel => exact ⟨k + 1, by go_num, by omega, HB.out.drew⟩
            case measure => simp [intOf]; omega
          · have HX := Lib.hid htx
            have t3 : (r.tx == tx) = true := by simpa using htx
            clear htx
            cases hgb : r.g
            · rw [hgb] at x7
              clear hgb
              go_wp2_with fail
              refine Go.Proofs.YtogcjflneedcfaaDoorW.PrintLast.start_ (n := 38) (S := fun v => v.cell? ⟨g, k * 9, none⟩ = some (.int .i64 r.tx) ∧ v.cell? ⟨g, k * 9 + 1, none⟩ = some (.int .i64 r.o.s) ∧ v.cell? ⟨g, k * 9 + 2, none⟩ = some (.string r.o.t) ∧ v.cell? ⟨g, k * 9 + 3, none⟩ = some (.string r.o.l) ∧ v.cell? ⟨g, k * 9 + 4, none⟩ = some (.string r.o.u) ∧ v.cell? ⟨g, k * 9 + 5, none⟩ = some (.bool r.o.e) ∧ v.cell? ⟨g, k * 9 + 6, none⟩ = some (.int .i64 r.m) ∧ v.cell? ⟨g, k * 9 + 7, none⟩ = some (.bool false) ∧ v.cell? ⟨g, k * 9 + 8, none⟩ = some (.bool r.s)) (ds := [37]) #[false, false, false, false, false, false, false, false, false, false, false, false, false, false, false, false, false, false, false, false, false, false, false, false, false, false, false, false, false, false, false, false, false, false, false, false, false, false] (by kernel_rfl) rfl rfl ⟨x0, x1, x2, x3, x4, x5, x6, x7, x8⟩ (fun hHeld => ?_)
              refine Go.Proofs.YtogcjflneedcfaaDoorW.PrintLast.pure_ (i := 0) (N := some 101) (v := ?_) (a' := ?_) #[true, false, false, false, false, false, false, false, false, false, false, false, false, false, false, false, false, false, false, false, false, false, false, false, false, false, false, false, false, false, false, false, false, false, false, false, false, false] rfl rfl (by kernel_rfl) (fun _ _ _ h => h) (Or.inl ⟨by rfl, ?_⟩) ?_ ?_
              rotate_left
              · intro w'
                go_simp
                with_reducible rfl
              rotate_left
              · simp only [Act.put, List.setIfInBounds_toArray, List.set_cons_zero, List.set_cons_succ, Go.Proofs.YtogcjflneedcfaaDoorW.PrintLast.i64_w, Go.Proofs.YtogcjflneedcfaaDoorW.PrintLast.i32_w]
                rfl
              refine Go.Proofs.YtogcjflneedcfaaDoorW.PrintLast.pure_ (i := 1) (N := some 102) (v := ?_) (a' := ?_) #[true, true, false, false, false, false, false, false, false, false, false, false, false, false, false, false, false, false, false, false, false, false, false, false, false, false, false, false, false, false, false, false, false, false, false, false, false, false] rfl rfl (by kernel_rfl) (fun _ _ _ h => h) (Or.inl ⟨by rfl, ?_⟩) ?_ ?_
              rotate_left
              · intro w'
                go_simp
                with_reducible rfl
              rotate_left
              · simp only [Act.put, List.setIfInBounds_toArray, List.set_cons_zero, List.set_cons_succ, Go.Proofs.YtogcjflneedcfaaDoorW.PrintLast.i64_w, Go.Proofs.YtogcjflneedcfaaDoorW.PrintLast.i32_w]
                rfl
              refine Go.Proofs.YtogcjflneedcfaaDoorW.PrintLast.pure_ (i := 2) (N := some 103) (v := ?_) (a' := ?_) #[true, true, true, false, false, false, false, false, false, false, false, false, false, false, false, false, false, false, false, false, false, false, false, false, false, false, false, false, false, false, false, false, false, false, false, false, false, false] rfl rfl (by kernel_rfl) (fun _ _ _ h => h) (Or.inl ⟨by rfl, ?_⟩) ?_ ?_
              rotate_left
              · intro w'
                go_simp
                with_reducible rfl
              rotate_left
              · simp only [Act.put, List.setIfInBounds_toArray, List.set_cons_zero, List.set_cons_succ, Go.Proofs.YtogcjflneedcfaaDoorW.PrintLast.i64_w, Go.Proofs.YtogcjflneedcfaaDoorW.PrintLast.i32_w]
                rfl
              refine Go.Proofs.YtogcjflneedcfaaDoorW.PrintLast.pure_ (i := 3) (N := some 104) (v := ?_) (a' := ?_) #[true, true, true, true, false, false, false, false, false, false, false, false, false, false, false, false, false, false, false, false, false, false, false, false, false, false, false, false, false, false, false, false, false, false, false, false, false, false] rfl rfl (by kernel_rfl) (fun _ _ _ h => h) (Or.inl ⟨by rfl, ?_⟩) ?_ ?_
              rotate_left
              · intro w'
                go_simp
                with_reducible rfl
              rotate_left
              · simp only [Act.put, List.setIfInBounds_toArray, List.set_cons_zero, List.set_cons_succ, Go.Proofs.YtogcjflneedcfaaDoorW.PrintLast.i64_w, Go.Proofs.YtogcjflneedcfaaDoorW.PrintLast.i32_w]
                rfl
              refine Go.Proofs.YtogcjflneedcfaaDoorW.PrintLast.take_ (i := 4) (N := some 105) (v := ?_) (a' := ?_) #[true, true, true, true, true, false, false, false, false, false, false, false, false, false, false, false, false, false, false, false, false, false, false, false, false, false, false, false, false, false, false, false, false, false, false, false, false, false] rfl rfl (by kernel_rfl) (fun _ _ _ h => h) (Or.inl ⟨by rfl, ?_⟩) hHeld ?_ ?_
              rotate_left
              · rintro w' ⟨s0, s1, s2, s3, s4, s5, s6, s7, s8⟩
                go_simp
                with_reducible rfl
              rotate_left
              · simp only [Act.put, List.setIfInBounds_toArray, List.set_cons_zero, List.set_cons_succ, Go.Proofs.YtogcjflneedcfaaDoorW.PrintLast.i64_w, Go.Proofs.YtogcjflneedcfaaDoorW.PrintLast.i32_w]
                rfl
              refine Go.Proofs.YtogcjflneedcfaaDoorW.PrintLast.pure_ (i := 5) (N := some 106) (v := ?_) (a' := ?_) #[true, true, true, true, true, true, false, false, false, false, false, false, false, false, false, false, false, false, false, false, false, false, false, false, false, false, false, false, false, false, false, false, false, false, false, false, false, false] rfl rfl (by kernel_rfl) (fun _ _ _ h => h) (Or.inl ⟨by rfl, ?_⟩) ?_ ?_
              rotate_left
              · intro w'
                go_simp
                with_reducible rfl
              rotate_left
              · simp only [Act.put, List.setIfInBounds_toArray, List.set_cons_zero, List.set_cons_succ, Go.Proofs.YtogcjflneedcfaaDoorW.PrintLast.i64_w, Go.Proofs.YtogcjflneedcfaaDoorW.PrintLast.i32_w]
                rfl
              refine Go.Proofs.YtogcjflneedcfaaDoorW.PrintLast.pure_ (i := 6) (N := some 107) (v := ?_) (a' := ?_) #[true, true, true, true, true, true, true, false, false, false, false, false, false, false, false, false, false, false, false, false, false, false, false, false, false, false, false, false, false, false, false, false, false, false, false, false, false, false] rfl rfl (by kernel_rfl) (fun _ _ _ h => h) (Or.inl ⟨by rfl, ?_⟩) ?_ ?_
              rotate_left
              · intro w'
                go_simp
                with_reducible rfl
              rotate_left
              · simp only [Act.put, List.setIfInBounds_toArray, List.set_cons_zero, List.set_cons_succ, Go.Proofs.YtogcjflneedcfaaDoorW.PrintLast.i64_w, Go.Proofs.YtogcjflneedcfaaDoorW.PrintLast.i32_w]
                rfl
              refine Go.Proofs.YtogcjflneedcfaaDoorW.PrintLast.pure_ (i := 7) (N := some 108) (v := ?_) (a' := ?_) #[true, true, true, true, true, true, true, true, false, false, false, false, false, false, false, false, false, false, false, false, false, false, false, false, false, false, false, false, false, false, false, false, false, false, false, false, false, false] rfl rfl (by kernel_rfl) (fun _ _ _ h => h) (Or.inl ⟨by rfl, ?_⟩) ?_ ?_
              rotate_left
              · intro w'
                go_simp
                with_reducible rfl
              rotate_left
              · simp only [Act.put, List.setIfInBounds_toArray, List.set_cons_zero, List.set_cons_succ, Go.Proofs.YtogcjflneedcfaaDoorW.PrintLast.i64_w, Go.Proofs.YtogcjflneedcfaaDoorW.PrintLast.i32_w]
                rfl
              refine Go.Proofs.YtogcjflneedcfaaDoorW.PrintLast.pure_ (i := 8) (N := some 109) (v := ?_) (a' := ?_) #[true, true, true, true, true, true, true, true, true, false, false, false, false, false, false, false, false, false, false, false, false, false, false, false, false, false, false, false, false, false, false, false, false, false, false, false, false, false] rfl rfl (by kernel_rfl) (fun _ _ _ h => h) (Or.inl ⟨by rfl, ?_⟩) ?_ ?_
              rotate_left
              · intro w'
                go_simp
                with_reducible rfl
              rotate_left
              · simp only [Act.put, List.setIfInBounds_toArray, List.set_cons_zero, List.set_cons_succ, Go.Proofs.YtogcjflneedcfaaDoorW.PrintLast.i64_w, Go.Proofs.YtogcjflneedcfaaDoorW.PrintLast.i32_w]
                rfl
              refine Go.Proofs.YtogcjflneedcfaaDoorW.PrintLast.pure_ (i := 9) (N := some 110) (v := ?_) (a' := ?_) #[true, true, true, true, true, true, true, true, true, true, false, false, false, false, false, false, false, false, false, false, false, false, false, false, false, false, false, false, false, false, false, false, false, false, false, false, false, false] rfl rfl (by kernel_rfl) (fun _ _ _ h => h) (Or.inl ⟨by rfl, ?_⟩) ?_ ?_
              rotate_left
              · intro w'
                go_simp
                with_reducible rfl
              rotate_left
              · simp only [Act.put, List.setIfInBounds_toArray, List.set_cons_zero, List.set_cons_succ, Go.Proofs.YtogcjflneedcfaaDoorW.PrintLast.i64_w, Go.Proofs.YtogcjflneedcfaaDoorW.PrintLast.i32_w]
                rfl
              refine Go.Proofs.YtogcjflneedcfaaDoorW.PrintLast.pure_ (i := 10) (N := some 111) (v := ?_) (a' := ?_) #[true, true, true, true, true, true, true, true, true, true, true, false, false, false, false, false, false, false, false, false, false, false, false, false, false, false, false, false, false, false, false, false, false, false, false, false, false, false] rfl rfl (by kernel_rfl) (fun _ _ _ h => h) (Or.inl ⟨by rfl, ?_⟩) ?_ ?_
              rotate_left
              · intro w'
                go_simp
                with_reducible rfl
              rotate_left
              · simp only [Act.put, List.setIfInBounds_toArray, List.set_cons_zero, List.set_cons_succ, Go.Proofs.YtogcjflneedcfaaDoorW.PrintLast.i64_w, Go.Proofs.YtogcjflneedcfaaDoorW.PrintLast.i32_w]
                rfl
              refine Go.Proofs.YtogcjflneedcfaaDoorW.PrintLast.pure_ (i := 11) (N := some 112) (v := ?_) (a' := ?_) #[true, true, true, true, true, true, true, true, true, true, true, true, false, false, false, false, false, false, false, false, false, false, false, false, false, false, false, false, false, false, false, false, false, false, false, false, false, false] rfl rfl (by kernel_rfl) (fun _ _ _ h => h) (Or.inl ⟨by rfl, ?_⟩) ?_ ?_
              rotate_left
              · intro w'
                go_simp
                with_reducible rfl
              rotate_left
              · simp only [Act.put, List.setIfInBounds_toArray, List.set_cons_zero, List.set_cons_succ, Go.Proofs.YtogcjflneedcfaaDoorW.PrintLast.i64_w, Go.Proofs.YtogcjflneedcfaaDoorW.PrintLast.i32_w]
                rfl
              refine Go.Proofs.YtogcjflneedcfaaDoorW.PrintLast.take_ (i := 12) (N := some 113) (v := ?_) (a' := ?_) #[true, true, true, true, true, true, true, true, true, true, true, true, true, false, false, false, false, false, false, false, false, false, false, false, false, false, false, false, false, false, false, false, false, false, false, false, false, false] rfl rfl (by kernel_rfl) (fun _ _ _ h => h) (Or.inl ⟨by rfl, ?_⟩) hHeld ?_ ?_
              rotate_left
              · rintro w' ⟨s0, s1, s2, s3, s4, s5, s6, s7, s8⟩
                go_simp
                with_reducible rfl
              rotate_left
              · simp only [Act.put, List.setIfInBounds_toArray, List.set_cons_zero, List.set_cons_succ, Go.Proofs.YtogcjflneedcfaaDoorW.PrintLast.i64_w, Go.Proofs.YtogcjflneedcfaaDoorW.PrintLast.i32_w]
                rfl
              refine Go.Proofs.YtogcjflneedcfaaDoorW.PrintLast.pure_ (i := 13) (N := some 114) (v := ?_) (a' := ?_) #[true, true, true, true, true, true, true, true, true, true, true, true, true, true, false, false, false, false, false, false, false, false, false, false, false, false, false, false, false, false, false, false, false, false, false, false, false, false] rfl rfl (by kernel_rfl) (fun _ _ _ h => h) (Or.inl ⟨by rfl, ?_⟩) ?_ ?_
              rotate_left
              · intro w'
                go_simp
                with_reducible rfl
              rotate_left
              · simp only [Act.put, List.setIfInBounds_toArray, List.set_cons_zero, List.set_cons_succ, Go.Proofs.YtogcjflneedcfaaDoorW.PrintLast.i64_w, Go.Proofs.YtogcjflneedcfaaDoorW.PrintLast.i32_w]
                rfl
              refine Go.Proofs.YtogcjflneedcfaaDoorW.PrintLast.pure_ (i := 14) (N := some 115) (v := ?_) (a' := ?_) #[true, true, true, true, true, true, true, true, true, true, true, true, true, true, true, false, false, false, false, false, false, false, false, false, false, false, false, false, false, false, false, false, false, false, false, false, false, false] rfl rfl (by kernel_rfl) (fun _ _ _ h => h) (Or.inl ⟨by rfl, ?_⟩) ?_ ?_
              rotate_left
              · intro w'
                go_simp
                with_reducible rfl
              rotate_left
              · simp only [Act.put, List.setIfInBounds_toArray, List.set_cons_zero, List.set_cons_succ, Go.Proofs.YtogcjflneedcfaaDoorW.PrintLast.i64_w, Go.Proofs.YtogcjflneedcfaaDoorW.PrintLast.i32_w]
                rfl
              refine Go.Proofs.YtogcjflneedcfaaDoorW.PrintLast.pure_ (i := 15) (N := some 116) (v := _) (a' := ?_) #[true, true, true, true, true, true, true, true, true, true, true, true, true, true, true, true, false, false, false, false, false, false, false, false, false, false, false, false, false, false, false, false, false, false, false, false, false, false] rfl rfl (by kernel_rfl) (fun _ _ _ h => h) (Or.inr ⟨by rfl, rfl⟩) ?_ ?_
              rotate_left
              · simp only [Act.put, List.setIfInBounds_toArray, List.set_cons_zero, List.set_cons_succ, Go.Proofs.YtogcjflneedcfaaDoorW.PrintLast.i64_w, Go.Proofs.YtogcjflneedcfaaDoorW.PrintLast.i32_w]
                rfl
              refine Go.Proofs.YtogcjflneedcfaaDoorW.PrintLast.pure_ (i := 16) (N := some 117) (v := _) (a' := ?_) #[true, true, true, true, true, true, true, true, true, true, true, true, true, true, true, true, true, false, false, false, false, false, false, false, false, false, false, false, false, false, false, false, false, false, false, false, false, false] rfl rfl (by kernel_rfl) (fun _ _ _ h => h) (Or.inr ⟨by rfl, rfl⟩) ?_ ?_
              rotate_left
              · simp only [Act.put, List.setIfInBounds_toArray, List.set_cons_zero, List.set_cons_succ, Go.Proofs.YtogcjflneedcfaaDoorW.PrintLast.i64_w, Go.Proofs.YtogcjflneedcfaaDoorW.PrintLast.i32_w]
                rfl
              refine Go.Proofs.YtogcjflneedcfaaDoorW.PrintLast.pure_ (i := 17) (N := some 118) (v := _) (a' := ?_) #[true, true, true, true, true, true, true, true, true, true, true, true, true, true, true, true, true, true, false, false, false, false, false, false, false, false, false, false, false, false, false, false, false, false, false, false, false, false] rfl rfl (by kernel_rfl) (fun _ _ _ h => h) (Or.inr ⟨by rfl, rfl⟩) ?_ ?_
              rotate_left
              · simp only [Act.put, List.setIfInBounds_toArray, List.set_cons_zero, List.set_cons_succ, Go.Proofs.YtogcjflneedcfaaDoorW.PrintLast.i64_w, Go.Proofs.YtogcjflneedcfaaDoorW.PrintLast.i32_w]
                rfl
              refine Go.Proofs.YtogcjflneedcfaaDoorW.PrintLast.pure_ (i := 18) (N := some 119) (v := _) (a' := ?_) #[true, true, true, true, true, true, true, true, true, true, true, true, true, true, true, true, true, true, true, false, false, false, false, false, false, false, false, false, false, false, false, false, false, false, false, false, false, false] rfl rfl (by kernel_rfl) (fun _ _ _ h => h) (Or.inr ⟨by rfl, rfl⟩) ?_ ?_
              rotate_left
              · simp only [Act.put, List.setIfInBounds_toArray, List.set_cons_zero, List.set_cons_succ, Go.Proofs.YtogcjflneedcfaaDoorW.PrintLast.i64_w, Go.Proofs.YtogcjflneedcfaaDoorW.PrintLast.i32_w]
                rfl
              refine Go.Proofs.YtogcjflneedcfaaDoorW.PrintLast.pure_ (i := 19) (N := some 120) (v := _) (a' := ?_) #[true, true, true, true, true, true, true, true, true, true, true, true, true, true, true, true, true, true, true, true, false, false, false, false, false, false, false, false, false, false, false, false, false, false, false, false, false, false] rfl rfl (by kernel_rfl) (fun _ _ _ h => h) (Or.inr ⟨by rfl, rfl⟩) ?_ ?_
              rotate_left
              · simp only [Act.put, List.setIfInBounds_toArray, List.set_cons_zero, List.set_cons_succ, Go.Proofs.YtogcjflneedcfaaDoorW.PrintLast.i64_w, Go.Proofs.YtogcjflneedcfaaDoorW.PrintLast.i32_w]
                rfl
              refine Go.Proofs.YtogcjflneedcfaaDoorW.PrintLast.pure_ (i := 20) (N := some 121) (v := _) (a' := ?_) #[true, true, true, true, true, true, true, true, true, true, true, true, true, true, true, true, true, true, true, true, true, false, false, false, false, false, false, false, false, false, false, false, false, false, false, false, false, false] rfl rfl (by kernel_rfl) (fun _ _ _ h => h) (Or.inr ⟨by rfl, rfl⟩) ?_ ?_
              rotate_left
              · simp only [Act.put, List.setIfInBounds_toArray, List.set_cons_zero, List.set_cons_succ, Go.Proofs.YtogcjflneedcfaaDoorW.PrintLast.i64_w, Go.Proofs.YtogcjflneedcfaaDoorW.PrintLast.i32_w]
                rfl
              refine Go.Proofs.YtogcjflneedcfaaDoorW.PrintLast.pure_ (i := 21) (N := some 122) (v := ?_) (a' := ?_) #[true, true, true, true, true, true, true, true, true, true, true, true, true, true, true, true, true, true, true, true, true, true, false, false, false, false, false, false, false, false, false, false, false, false, false, false, false, false] rfl rfl (by kernel_rfl) (fun _ _ _ h => h) (Or.inl ⟨by rfl, ?_⟩) ?_ ?_
              rotate_left
              · intro w'
                go_simp
                with_reducible rfl
              rotate_left
              · simp only [Act.put, List.setIfInBounds_toArray, List.set_cons_zero, List.set_cons_succ, Go.Proofs.YtogcjflneedcfaaDoorW.PrintLast.i64_w, Go.Proofs.YtogcjflneedcfaaDoorW.PrintLast.i32_w]
                rfl
              refine Go.Proofs.YtogcjflneedcfaaDoorW.PrintLast.pure_ (i := 22) (N := some 123) (v := ?_) (a' := ?_) #[true, true, true, true, true, true, true, true, true, true, true, true, true, true, true, true, true, true, true, true, true, true, true, false, false, false, false, false, false, false, false, false, false, false, false, false, false, false] rfl rfl (by kernel_rfl) (fun _ _ _ h => h) (Or.inl ⟨by rfl, ?_⟩) ?_ ?_
              rotate_left
              · intro w'
                go_simp
                with_reducible rfl
              rotate_left
              · simp only [Act.put, List.setIfInBounds_toArray, List.set_cons_zero, List.set_cons_succ, Go.Proofs.YtogcjflneedcfaaDoorW.PrintLast.i64_w, Go.Proofs.YtogcjflneedcfaaDoorW.PrintLast.i32_w]
                rfl
              refine Go.Proofs.YtogcjflneedcfaaDoorW.PrintLast.pure_ (i := 23) (N := some 124) (v := _) (a' := ?_) #[true, true, true, true, true, true, true, true, true, true, true, true, true, true, true, true, true, true, true, true, true, true, true, true, false, false, false, false, false, false, false, false, false, false, false, false, false, false] rfl rfl (by kernel_rfl) (fun _ _ _ h => h) (Or.inr ⟨by rfl, rfl⟩) ?_ ?_
              rotate_left
              · simp only [Act.put, List.setIfInBounds_toArray, List.set_cons_zero, List.set_cons_succ, Go.Proofs.YtogcjflneedcfaaDoorW.PrintLast.i64_w, Go.Proofs.YtogcjflneedcfaaDoorW.PrintLast.i32_w]
                rfl
              refine Go.Proofs.YtogcjflneedcfaaDoorW.PrintLast.pure_ (i := 24) (N := some 125) (v := _) (a' := ?_) #[true, true, true, true, true, true, true, true, true, true, true, true, true, true, true, true, true, true, true, true, true, true, true, true, true, false, false, false, false, false, false, false, false, false, false, false, false, false] rfl rfl (by kernel_rfl) (fun _ _ _ h => h) (Or.inr ⟨by rfl, rfl⟩) ?_ ?_
              rotate_left
              · simp only [Act.put, List.setIfInBounds_toArray, List.set_cons_zero, List.set_cons_succ, Go.Proofs.YtogcjflneedcfaaDoorW.PrintLast.i64_w, Go.Proofs.YtogcjflneedcfaaDoorW.PrintLast.i32_w]
                rfl
              refine Go.Proofs.YtogcjflneedcfaaDoorW.PrintLast.pure_ (i := 25) (N := some 126) (v := _) (a' := ?_) #[true, true, true, true, true, true, true, true, true, true, true, true, true, true, true, true, true, true, true, true, true, true, true, true, true, true, false, false, false, false, false, false, false, false, false, false, false, false] rfl rfl (by kernel_rfl) (fun _ _ _ h => h) (Or.inr ⟨by rfl, rfl⟩) ?_ ?_
              rotate_left
              · simp only [Act.put, List.setIfInBounds_toArray, List.set_cons_zero, List.set_cons_succ, Go.Proofs.YtogcjflneedcfaaDoorW.PrintLast.i64_w, Go.Proofs.YtogcjflneedcfaaDoorW.PrintLast.i32_w]
                rfl
              refine Go.Proofs.YtogcjflneedcfaaDoorW.PrintLast.pure_ (i := 26) (N := some 127) (v := _) (a' := ?_) #[true, true, true, true, true, true, true, true, true, true, true, true, true, true, true, true, true, true, true, true, true, true, true, true, true, true, true, false, false, false, false, false, false, false, false, false, false, false] rfl rfl (by kernel_rfl) (fun _ _ _ h => h) (Or.inr ⟨by rfl, rfl⟩) ?_ ?_
              rotate_left
              · simp only [Act.put, List.setIfInBounds_toArray, List.set_cons_zero, List.set_cons_succ, Go.Proofs.YtogcjflneedcfaaDoorW.PrintLast.i64_w, Go.Proofs.YtogcjflneedcfaaDoorW.PrintLast.i32_w]
                rfl
              refine Go.Proofs.YtogcjflneedcfaaDoorW.PrintLast.pure_ (i := 27) (N := some 128) (v := _) (a' := ?_) #[true, true, true, true, true, true, true, true, true, true, true, true, true, true, true, true, true, true, true, true, true, true, true, true, true, true, true, true, false, false, false, false, false, false, false, false, false, false] rfl rfl (by kernel_rfl) (fun _ _ _ h => h) (Or.inr ⟨by rfl, rfl⟩) ?_ ?_
              rotate_left
              · simp only [Act.put, List.setIfInBounds_toArray, List.set_cons_zero, List.set_cons_succ, Go.Proofs.YtogcjflneedcfaaDoorW.PrintLast.i64_w, Go.Proofs.YtogcjflneedcfaaDoorW.PrintLast.i32_w]
                rfl
              refine Go.Proofs.YtogcjflneedcfaaDoorW.PrintLast.pure_ (i := 28) (N := some 129) (v := _) (a' := ?_) #[true, true, true, true, true, true, true, true, true, true, true, true, true, true, true, true, true, true, true, true, true, true, true, true, true, true, true, true, true, false, false, false, false, false, false, false, false, false] rfl rfl (by kernel_rfl) (fun _ _ _ h => h) (Or.inr ⟨by rfl, rfl⟩) ?_ ?_
              rotate_left
              · simp only [Act.put, List.setIfInBounds_toArray, List.set_cons_zero, List.set_cons_succ, Go.Proofs.YtogcjflneedcfaaDoorW.PrintLast.i64_w, Go.Proofs.YtogcjflneedcfaaDoorW.PrintLast.i32_w]
                rfl
              refine Go.Proofs.YtogcjflneedcfaaDoorW.PrintLast.pure_ (i := 29) (N := some 130) (v := _) (a' := ?_) #[true, true, true, true, true, true, true, true, true, true, true, true, true, true, true, true, true, true, true, true, true, true, true, true, true, true, true, true, true, true, false, false, false, false, false, false, false, false] rfl rfl (by kernel_rfl) (fun _ _ _ h => h) (Or.inr ⟨by rfl, rfl⟩) ?_ ?_
              rotate_left
              · simp only [Act.put, List.setIfInBounds_toArray, List.set_cons_zero, List.set_cons_succ, Go.Proofs.YtogcjflneedcfaaDoorW.PrintLast.i64_w, Go.Proofs.YtogcjflneedcfaaDoorW.PrintLast.i32_w]
                rfl
              refine Go.Proofs.YtogcjflneedcfaaDoorW.PrintLast.pure_ (i := 30) (N := some 131) (v := _) (a' := ?_) #[true, true, true, true, true, true, true, true, true, true, true, true, true, true, true, true, true, true, true, true, true, true, true, true, true, true, true, true, true, true, true, false, false, false, false, false, false, false] rfl rfl (by kernel_rfl) (fun _ _ _ h => h) (Or.inr ⟨by rfl, rfl⟩) ?_ ?_
              rotate_left
              · simp only [Act.put, List.setIfInBounds_toArray, List.set_cons_zero, List.set_cons_succ, Go.Proofs.YtogcjflneedcfaaDoorW.PrintLast.i64_w, Go.Proofs.YtogcjflneedcfaaDoorW.PrintLast.i32_w]
                rfl
              refine Go.Proofs.YtogcjflneedcfaaDoorW.PrintLast.pure_ (i := 31) (N := some 132) (v := _) (a' := ?_) #[true, true, true, true, true, true, true, true, true, true, true, true, true, true, true, true, true, true, true, true, true, true, true, true, true, true, true, true, true, true, true, true, false, false, false, false, false, false] rfl rfl (by kernel_rfl) (fun _ _ _ h => h) (Or.inr ⟨by rfl, rfl⟩) ?_ ?_
              rotate_left
              · simp only [Act.put, List.setIfInBounds_toArray, List.set_cons_zero, List.set_cons_succ, Go.Proofs.YtogcjflneedcfaaDoorW.PrintLast.i64_w, Go.Proofs.YtogcjflneedcfaaDoorW.PrintLast.i32_w]
                rfl
              refine Go.Proofs.YtogcjflneedcfaaDoorW.PrintLast.pure_ (i := 32) (N := some 133) (v := _) (a' := ?_) #[true, true, true, true, true, true, true, true, true, true, true, true, true, true, true, true, true, true, true, true, true, true, true, true, true, true, true, true, true, true, true, true, true, false, false, false, false, false] rfl rfl (by kernel_rfl) (fun _ _ _ h => h) (Or.inr ⟨by rfl, rfl⟩) ?_ ?_
              rotate_left
              · simp only [Act.put, List.setIfInBounds_toArray, List.set_cons_zero, List.set_cons_succ, Go.Proofs.YtogcjflneedcfaaDoorW.PrintLast.i64_w, Go.Proofs.YtogcjflneedcfaaDoorW.PrintLast.i32_w]
                rfl
              refine Go.Proofs.YtogcjflneedcfaaDoorW.PrintLast.pure_ (i := 33) (N := some 134) (v := _) (a' := ?_) #[true, true, true, true, true, true, true, true, true, true, true, true, true, true, true, true, true, true, true, true, true, true, true, true, true, true, true, true, true, true, true, true, true, true, false, false, false, false] rfl rfl (by kernel_rfl) (fun _ _ _ h => h) (Or.inr ⟨by rfl, rfl⟩) ?_ ?_
              rotate_left
              · simp only [Act.put, List.setIfInBounds_toArray, List.set_cons_zero, List.set_cons_succ, Go.Proofs.YtogcjflneedcfaaDoorW.PrintLast.i64_w, Go.Proofs.YtogcjflneedcfaaDoorW.PrintLast.i32_w]
                rfl
              refine Go.Proofs.YtogcjflneedcfaaDoorW.PrintLast.pure_ (i := 34) (N := some 135) (v := _) (a' := ?_) #[true, true, true, true, true, true, true, true, true, true, true, true, true, true, true, true, true, true, true, true, true, true, true, true, true, true, true, true, true, true, true, true, true, true, true, false, false, false] rfl rfl (by kernel_rfl) (fun _ _ _ h => h) (Or.inr ⟨by rfl, rfl⟩) ?_ ?_
              rotate_left
              · simp only [Act.put, List.setIfInBounds_toArray, List.set_cons_zero, List.set_cons_succ, Go.Proofs.YtogcjflneedcfaaDoorW.PrintLast.i64_w, Go.Proofs.YtogcjflneedcfaaDoorW.PrintLast.i32_w]
                rfl
              refine Go.Proofs.YtogcjflneedcfaaDoorW.PrintLast.pure_ (i := 35) (N := some 136) (v := _) (a' := ?_) #[true, true, true, true, true, true, true, true, true, true, true, true, true, true, true, true, true, true, true, true, true, true, true, true, true, true, true, true, true, true, true, true, true, true, true, true, false, false] rfl rfl (by kernel_rfl) (fun _ _ _ h => h) (Or.inr ⟨by rfl, rfl⟩) ?_ ?_
              rotate_left
              · simp only [Act.put, List.setIfInBounds_toArray, List.set_cons_zero, List.set_cons_succ, Go.Proofs.YtogcjflneedcfaaDoorW.PrintLast.i64_w, Go.Proofs.YtogcjflneedcfaaDoorW.PrintLast.i32_w]
                rfl
              refine Go.Proofs.YtogcjflneedcfaaDoorW.PrintLast.pure_ (i := 36) (N := some 137) (v := _) (a' := ?_) #[true, true, true, true, true, true, true, true, true, true, true, true, true, true, true, true, true, true, true, true, true, true, true, true, true, true, true, true, true, true, true, true, true, true, true, true, true, false] rfl rfl (by kernel_rfl) (fun _ _ _ h => h) (Or.inr ⟨by rfl, rfl⟩) ?_ ?_
              rotate_left
              · simp only [Act.put, List.setIfInBounds_toArray, List.set_cons_zero, List.set_cons_succ, Go.Proofs.YtogcjflneedcfaaDoorW.PrintLast.i64_w, Go.Proofs.YtogcjflneedcfaaDoorW.PrintLast.i32_w]
                rfl
              refine Go.Proofs.YtogcjflneedcfaaDoorW.PrintLast.pure_ (i := 37) (N := some 138) (v := ?_) (a' := ?_) #[true, true, true, true, true, true, true, true, true, true, true, true, true, true, true, true, true, true, true, true, true, true, true, true, true, true, true, true, true, true, true, true, true, true, true, true, true, true] rfl rfl (by kernel_rfl) (fun _ _ _ h => h) (Or.inl ⟨by rfl, ?_⟩) ?_ ?_
              rotate_left
              · intro w'
                go_simp
                with_reducible rfl
              rotate_left
              · simp only [Act.put, List.setIfInBounds_toArray, List.set_cons_zero, List.set_cons_succ, Go.Proofs.YtogcjflneedcfaaDoorW.PrintLast.i64_w, Go.Proofs.YtogcjflneedcfaaDoorW.PrintLast.i32_w]
                rfl
              refine Go.Proofs.YtogcjflneedcfaaDoorW.PrintLast.done_ (by kernel_rfl) ?_
              clear hHeld x0 x1 x2 x3 x4 x5 x6 x7 x8
              go_wp2_with fail
              go_roundw
              case rel => exact ⟨k + 1, by go_num, by omega, HB.out.drew⟩
              case measure => simp [intOf]; omega
            · rw [hgb] at x7
              have HGB := Lib.hid hgb
              clear hgb
              cases hsb : r.s
              rotate_left
              · rw [hsb] at x8
                clear hsb
                go_wp2_with fail
                refine Go.Proofs.YtogcjflneedcfaaDoorW.PrintLast.start_ (n := 38) (S := fun v => v.cell? ⟨g, k * 9, none⟩ = some (.int .i64 r.tx) ∧ v.cell? ⟨g, k * 9 + 1, none⟩ = some (.int .i64 r.o.s) ∧ v.cell? ⟨g, k * 9 + 2, none⟩ = some (.string r.o.t) ∧ v.cell? ⟨g, k * 9 + 3, none⟩ = some (.string r.o.l) ∧ v.cell? ⟨g, k * 9 + 4, none⟩ = some (.string r.o.u) ∧ v.cell? ⟨g, k * 9 + 5, none⟩ = some (.bool r.o.e) ∧ v.cell? ⟨g, k * 9 + 6, none⟩ = some (.int .i64 r.m) ∧ v.cell? ⟨g, k * 9 + 7, none⟩ = some (.bool true) ∧ v.cell? ⟨g, k * 9 + 8, none⟩ = some (.bool true)) (ds := [37]) #[false, false, false, false, false, false, false, false, false, false, false, false, false, false, false, false, false, false, false, false, false, false, false, false, false, false, false, false, false, false, false, false, false, false, false, false, false, false] (by kernel_rfl) rfl rfl ⟨x0, x1, x2, x3, x4, x5, x6, x7, x8⟩ (fun hHeld => ?_)
                refine Go.Proofs.YtogcjflneedcfaaDoorW.PrintLast.pure_ (i := 0) (N := some 101) (v := ?_) (a' := ?_) #[true, false, false, false, false, false, false, false, false, false, false, false, false, false, false, false, false, false, false, false, false, false, false, false, false, false, false, false, false, false, false, false, false, false, false, false, false, false] rfl rfl (by kernel_rfl) (fun _ _ _ h => h) (Or.inl ⟨by rfl, ?_⟩) ?_ ?_
                rotate_left
                · intro w'
                  go_simp
                  with_reducible rfl
                rotate_left
                · simp only [Act.put, List.setIfInBounds_toArray, List.set_cons_zero, List.set_cons_succ, Go.Proofs.YtogcjflneedcfaaDoorW.PrintLast.i64_w, Go.Proofs.YtogcjflneedcfaaDoorW.PrintLast.i32_w]
                  rfl
                refine Go.Proofs.YtogcjflneedcfaaDoorW.PrintLast.pure_ (i := 1) (N := some 102) (v := ?_) (a' := ?_) #[true, true, false, false, false, false, false, false, false, false, false, false, false, false, false, false, false, false, false, false, false, false, false, false, false, false, false, false, false, false, false, false, false, false, false, false, false, false] rfl rfl (by kernel_rfl) (fun _ _ _ h => h) (Or.inl ⟨by rfl, ?_⟩) ?_ ?_
                rotate_left
                · intro w'
                  go_simp
                  with_reducible rfl
                rotate_left
                · simp only [Act.put, List.setIfInBounds_toArray, List.set_cons_zero, List.set_cons_succ, Go.Proofs.YtogcjflneedcfaaDoorW.PrintLast.i64_w, Go.Proofs.YtogcjflneedcfaaDoorW.PrintLast.i32_w]
                  rfl
                refine Go.Proofs.YtogcjflneedcfaaDoorW.PrintLast.pure_ (i := 2) (N := some 103) (v := ?_) (a' := ?_) #[true, true, true, false, false, false, false, false, false, false, false, false, false, false, false, false, false, false, false, false, false, false, false, false, false, false, false, false, false, false, false, false, false, false, false, false, false, false] rfl rfl (by kernel_rfl) (fun _ _ _ h => h) (Or.inl ⟨by rfl, ?_⟩) ?_ ?_
                rotate_left
                · intro w'
                  go_simp
                  with_reducible rfl
                rotate_left
                · simp only [Act.put, List.setIfInBounds_toArray, List.set_cons_zero, List.set_cons_succ, Go.Proofs.YtogcjflneedcfaaDoorW.PrintLast.i64_w, Go.Proofs.YtogcjflneedcfaaDoorW.PrintLast.i32_w]
                  rfl
                refine Go.Proofs.YtogcjflneedcfaaDoorW.PrintLast.pure_ (i := 3) (N := some 104) (v := ?_) (a' := ?_) #[true, true, true, true, false, false, false, false, false, false, false, false, false, false, false, false, false, false, false, false, false, false, false, false, false, false, false, false, false, false, false, false, false, false, false, false, false, false] rfl rfl (by kernel_rfl) (fun _ _ _ h => h) (Or.inl ⟨by rfl, ?_⟩) ?_ ?_
                rotate_left
                · intro w'
                  go_simp
                  with_reducible rfl
                rotate_left
                · simp only [Act.put, List.setIfInBounds_toArray, List.set_cons_zero, List.set_cons_succ, Go.Proofs.YtogcjflneedcfaaDoorW.PrintLast.i64_w, Go.Proofs.YtogcjflneedcfaaDoorW.PrintLast.i32_w]
                  rfl
                refine Go.Proofs.YtogcjflneedcfaaDoorW.PrintLast.take_ (i := 4) (N := some 105) (v := ?_) (a' := ?_) #[true, true, true, true, true, false, false, false, false, false, false, false, false, false, false, false, false, false, false, false, false, false, false, false, false, false, false, false, false, false, false, false, false, false, false, false, false, false] rfl rfl (by kernel_rfl) (fun _ _ _ h => h) (Or.inl ⟨by rfl, ?_⟩) hHeld ?_ ?_
                rotate_left
                · rintro w' ⟨s0, s1, s2, s3, s4, s5, s6, s7, s8⟩
                  go_simp
                  with_reducible rfl
                rotate_left
                · simp only [Act.put, List.setIfInBounds_toArray, List.set_cons_zero, List.set_cons_succ, Go.Proofs.YtogcjflneedcfaaDoorW.PrintLast.i64_w, Go.Proofs.YtogcjflneedcfaaDoorW.PrintLast.i32_w]
                  rfl
                refine Go.Proofs.YtogcjflneedcfaaDoorW.PrintLast.pure_ (i := 5) (N := some 106) (v := ?_) (a' := ?_) #[true, true, true, true, true, true, false, false, false, false, false, false, false, false, false, false, false, false, false, false, false, false, false, false, false, false, false, false, false, false, false, false, false, false, false, false, false, false] rfl rfl (by kernel_rfl) (fun _ _ _ h => h) (Or.inl ⟨by rfl, ?_⟩) ?_ ?_
                rotate_left
                · intro w'
                  go_simp
                  with_reducible rfl
                rotate_left
                · simp only [Act.put, List.setIfInBounds_toArray, List.set_cons_zero, List.set_cons_succ, Go.Proofs.YtogcjflneedcfaaDoorW.PrintLast.i64_w, Go.Proofs.YtogcjflneedcfaaDoorW.PrintLast.i32_w]
                  rfl
                refine Go.Proofs.YtogcjflneedcfaaDoorW.PrintLast.pure_ (i := 6) (N := some 107) (v := ?_) (a' := ?_) #[true, true, true, true, true, true, true, false, false, false, false, false, false, false, false, false, false, false, false, false, false, false, false, false, false, false, false, false, false, false, false, false, false, false, false, false, false, false] rfl rfl (by kernel_rfl) (fun _ _ _ h => h) (Or.inl ⟨by rfl, ?_⟩) ?_ ?_
                rotate_left
                · intro w'
                  go_simp
                  with_reducible rfl
                rotate_left
                · simp only [Act.put, List.setIfInBounds_toArray, List.set_cons_zero, List.set_cons_succ, Go.Proofs.YtogcjflneedcfaaDoorW.PrintLast.i64_w, Go.Proofs.YtogcjflneedcfaaDoorW.PrintLast.i32_w]
                  rfl
                refine Go.Proofs.YtogcjflneedcfaaDoorW.PrintLast.pure_ (i := 7) (N := some 108) (v := ?_) (a' := ?_) #[true, true, true, true, true, true, true, true, false, false, false, false, false, false, false, false, false, false, false, false, false, false, false, false, false, false, false, false, false, false, false, false, false, false, false, false, false, false] rfl rfl (by kernel_rfl) (fun _ _ _ h => h) (Or.inl ⟨by rfl, ?_⟩) ?_ ?_
                rotate_left
                · intro w'
                  go_simp
                  with_reducible rfl
                rotate_left
                · simp only [Act.put, List.setIfInBounds_toArray, List.set_cons_zero, List.set_cons_succ, Go.Proofs.YtogcjflneedcfaaDoorW.PrintLast.i64_w, Go.Proofs.YtogcjflneedcfaaDoorW.PrintLast.i32_w]
                  rfl
                refine Go.Proofs.YtogcjflneedcfaaDoorW.PrintLast.pure_ (i := 8) (N := some 109) (v := ?_) (a' := ?_) #[true, true, true, true, true, true, true, true, true, false, false, false, false, false, false, false, false, false, false, false, false, false, false, false, false, false, false, false, false, false, false, false, false, false, false, false, false, false] rfl rfl (by kernel_rfl) (fun _ _ _ h => h) (Or.inl ⟨by rfl, ?_⟩) ?_ ?_
                rotate_left
                · intro w'
                  go_simp
                  with_reducible rfl
                rotate_left
                · simp only [Act.put, List.setIfInBounds_toArray, List.set_cons_zero, List.set_cons_succ, Go.Proofs.YtogcjflneedcfaaDoorW.PrintLast.i64_w, Go.Proofs.YtogcjflneedcfaaDoorW.PrintLast.i32_w]
                  rfl
                refine Go.Proofs.YtogcjflneedcfaaDoorW.PrintLast.pure_ (i := 9) (N := some 110) (v := ?_) (a' := ?_) #[true, true, true, true, true, true, true, true, true, true, false, false, false, false, false, false, false, false, false, false, false, false, false, false, false, false, false, false, false, false, false, false, false, false, false, false, false, false] rfl rfl (by kernel_rfl) (fun _ _ _ h => h) (Or.inl ⟨by rfl, ?_⟩) ?_ ?_
                rotate_left
                · intro w'
                  go_simp
                  with_reducible rfl
                rotate_left
                · simp only [Act.put, List.setIfInBounds_toArray, List.set_cons_zero, List.set_cons_succ, Go.Proofs.YtogcjflneedcfaaDoorW.PrintLast.i64_w, Go.Proofs.YtogcjflneedcfaaDoorW.PrintLast.i32_w]
                  rfl
                refine Go.Proofs.YtogcjflneedcfaaDoorW.PrintLast.pure_ (i := 10) (N := some 111) (v := ?_) (a' := ?_) #[true, true, true, true, true, true, true, true, true, true, true, false, false, false, false, false, false, false, false, false, false, false, false, false, false, false, false, false, false, false, false, false, false, false, false, false, false, false] rfl rfl (by kernel_rfl) (fun _ _ _ h => h) (Or.inl ⟨by rfl, ?_⟩) ?_ ?_
                rotate_left
                · intro w'
                  go_simp
                  with_reducible rfl
                rotate_left
                · simp only [Act.put, List.setIfInBounds_toArray, List.set_cons_zero, List.set_cons_succ, Go.Proofs.YtogcjflneedcfaaDoorW.PrintLast.i64_w, Go.Proofs.YtogcjflneedcfaaDoorW.PrintLast.i32_w]
                  rfl
                refine Go.Proofs.YtogcjflneedcfaaDoorW.PrintLast.pure_ (i := 11) (N := some 112) (v := ?_) (a' := ?_) #[true, true, true, true, true, true, true, true, true, true, true, true, false, false, false, false, false, false, false, false, false, false, false, false, false, false, false, false, false, false, false, false, false, false, false, false, false, false] rfl rfl (by kernel_rfl) (fun _ _ _ h => h) (Or.inl ⟨by rfl, ?_⟩) ?_ ?_
                rotate_left
                · intro w'
                  go_simp
                  with_reducible rfl
                rotate_left
                · simp only [Act.put, List.setIfInBounds_toArray, List.set_cons_zero, List.set_cons_succ, Go.Proofs.YtogcjflneedcfaaDoorW.PrintLast.i64_w, Go.Proofs.YtogcjflneedcfaaDoorW.PrintLast.i32_w]
                  rfl
                refine Go.Proofs.YtogcjflneedcfaaDoorW.PrintLast.take_ (i := 12) (N := some 113) (v := ?_) (a' := ?_) #[true, true, true, true, true, true, true, true, true, true, true, true, true, false, false, false, false, false, false, false, false, false, false, false, false, false, false, false, false, false, false, false, false, false, false, false, false, false] rfl rfl (by kernel_rfl) (fun _ _ _ h => h) (Or.inl ⟨by rfl, ?_⟩) hHeld ?_ ?_
                rotate_left
                · rintro w' ⟨s0, s1, s2, s3, s4, s5, s6, s7, s8⟩
                  go_simp
                  with_reducible rfl
                rotate_left
                · simp only [Act.put, List.setIfInBounds_toArray, List.set_cons_zero, List.set_cons_succ, Go.Proofs.YtogcjflneedcfaaDoorW.PrintLast.i64_w, Go.Proofs.YtogcjflneedcfaaDoorW.PrintLast.i32_w]
                  rfl
                refine Go.Proofs.YtogcjflneedcfaaDoorW.PrintLast.pure_ (i := 13) (N := some 114) (v := ?_) (a' := ?_) #[true, true, true, true, true, true, true, true, true, true, true, true, true, true, false, false, false, false, false, false, false, false, false, false, false, false, false, false, false, false, false, false, false, false, false, false, false, false] rfl rfl (by kernel_rfl) (fun _ _ _ h => h) (Or.inl ⟨by rfl, ?_⟩) ?_ ?_
                rotate_left
                · intro w'
                  go_simp
                  with_reducible rfl
                rotate_left
                · simp only [Act.put, List.setIfInBounds_toArray, List.set_cons_zero, List.set_cons_succ, Go.Proofs.YtogcjflneedcfaaDoorW.PrintLast.i64_w, Go.Proofs.YtogcjflneedcfaaDoorW.PrintLast.i32_w]
                  rfl
                refine Go.Proofs.YtogcjflneedcfaaDoorW.PrintLast.pure_ (i := 14) (N := some 115) (v := ?_) (a' := ?_) #[true, true, true, true, true, true, true, true, true, true, true, true, true, true, true, false, false, false, false, false, false, false, false, false, false, false, false, false, false, false, false, false, false, false, false, false, false, false] rfl rfl (by kernel_rfl) (fun _ _ _ h => h) (Or.inl ⟨by rfl, ?_⟩) ?_ ?_
                rotate_left
                · intro w'
                  go_simp
                  with_reducible rfl
                rotate_left
                · simp only [Act.put, List.setIfInBounds_toArray, List.set_cons_zero, List.set_cons_succ, Go.Proofs.YtogcjflneedcfaaDoorW.PrintLast.i64_w, Go.Proofs.YtogcjflneedcfaaDoorW.PrintLast.i32_w]
                  rfl
                refine Go.Proofs.YtogcjflneedcfaaDoorW.PrintLast.pure_ (i := 15) (N := some 116) (v := ?_) (a' := ?_) #[true, true, true, true, true, true, true, true, true, true, true, true, true, true, true, true, false, false, false, false, false, false, false, false, false, false, false, false, false, false, false, false, false, false, false, false, false, false] rfl rfl (by kernel_rfl) (fun _ _ _ h => h) (Or.inl ⟨by rfl, ?_⟩) ?_ ?_
                rotate_left
                · intro w'
                  go_simp
                  with_reducible rfl
                rotate_left
                · simp only [Act.put, List.setIfInBounds_toArray, List.set_cons_zero, List.set_cons_succ, Go.Proofs.YtogcjflneedcfaaDoorW.PrintLast.i64_w, Go.Proofs.YtogcjflneedcfaaDoorW.PrintLast.i32_w]
                  rfl
                refine Go.Proofs.YtogcjflneedcfaaDoorW.PrintLast.pure_ (i := 16) (N := some 117) (v := ?_) (a' := ?_) #[true, true, true, true, true, true, true, true, true, true, true, true, true, true, true, true, true, false, false, false, false, false, false, false, false, false, false, false, false, false, false, false, false, false, false, false, false, false] rfl rfl (by kernel_rfl) (fun _ _ _ h => h) (Or.inl ⟨by rfl, ?_⟩) ?_ ?_
                rotate_left
                · intro w'
                  go_simp
                  with_reducible rfl
                rotate_left
                · simp only [Act.put, List.setIfInBounds_toArray, List.set_cons_zero, List.set_cons_succ, Go.Proofs.YtogcjflneedcfaaDoorW.PrintLast.i64_w, Go.Proofs.YtogcjflneedcfaaDoorW.PrintLast.i32_w]
                  rfl
                refine Go.Proofs.YtogcjflneedcfaaDoorW.PrintLast.pure_ (i := 17) (N := some 118) (v := ?_) (a' := ?_) #[true, true, true, true, true, true, true, true, true, true, true, true, true, true, true, true, true, true, false, false, false, false, false, false, false, false, false, false, false, false, false, false, false, false, false, false, false, false] rfl rfl (by kernel_rfl) (fun _ _ _ h => h) (Or.inl ⟨by rfl, ?_⟩) ?_ ?_
                rotate_left
                · intro w'
                  go_simp
                  with_reducible rfl
                rotate_left
                · simp only [Act.put, List.setIfInBounds_toArray, List.set_cons_zero, List.set_cons_succ, Go.Proofs.YtogcjflneedcfaaDoorW.PrintLast.i64_w, Go.Proofs.YtogcjflneedcfaaDoorW.PrintLast.i32_w]
                  rfl
                refine Go.Proofs.YtogcjflneedcfaaDoorW.PrintLast.pure_ (i := 18) (N := some 119) (v := ?_) (a' := ?_) #[true, true, true, true, true, true, true, true, true, true, true, true, true, true, true, true, true, true, true, false, false, false, false, false, false, false, false, false, false, false, false, false, false, false, false, false, false, false] rfl rfl (by kernel_rfl) (fun _ _ _ h => h) (Or.inl ⟨by rfl, ?_⟩) ?_ ?_
                rotate_left
                · intro w'
                  go_simp
                  with_reducible rfl
                rotate_left
                · simp only [Act.put, List.setIfInBounds_toArray, List.set_cons_zero, List.set_cons_succ, Go.Proofs.YtogcjflneedcfaaDoorW.PrintLast.i64_w, Go.Proofs.YtogcjflneedcfaaDoorW.PrintLast.i32_w]
                  rfl
                refine Go.Proofs.YtogcjflneedcfaaDoorW.PrintLast.take_ (i := 19) (N := some 120) (v := ?_) (a' := ?_) #[true, true, true, true, true, true, true, true, true, true, true, true, true, true, true, true, true, true, true, true, false, false, false, false, false, false, false, false, false, false, false, false, false, false, false, false, false, false] rfl rfl (by kernel_rfl) (fun _ _ _ h => h) (Or.inl ⟨by rfl, ?_⟩) hHeld ?_ ?_
                rotate_left
                · rintro w' ⟨s0, s1, s2, s3, s4, s5, s6, s7, s8⟩
                  go_simp
                  with_reducible rfl
                rotate_left
                · simp only [Act.put, List.setIfInBounds_toArray, List.set_cons_zero, List.set_cons_succ, Go.Proofs.YtogcjflneedcfaaDoorW.PrintLast.i64_w, Go.Proofs.YtogcjflneedcfaaDoorW.PrintLast.i32_w]
                  rfl
                refine Go.Proofs.YtogcjflneedcfaaDoorW.PrintLast.pure_ (i := 20) (N := some 121) (v := ?_) (a' := ?_) #[true, true, true, true, true, true, true, true, true, true, true, true, true, true, true, true, true, true, true, true, true, false, false, false, false, false, false, false, false, false, false, false, false, false, false, false, false, false] rfl rfl (by kernel_rfl) (fun _ _ _ h => h) (Or.inl ⟨by rfl, ?_⟩) ?_ ?_
                rotate_left
                · intro w'
                  go_simp
                  with_reducible rfl
                rotate_left
                · simp only [Act.put, List.setIfInBounds_toArray, List.set_cons_zero, List.set_cons_succ, Go.Proofs.YtogcjflneedcfaaDoorW.PrintLast.i64_w, Go.Proofs.YtogcjflneedcfaaDoorW.PrintLast.i32_w]
                  rfl
                refine Go.Proofs.YtogcjflneedcfaaDoorW.PrintLast.pure_ (i := 21) (N := some 122) (v := ?_) (a' := ?_) #[true, true, true, true, true, true, true, true, true, true, true, true, true, true, true, true, true, true, true, true, true, true, false, false, false, false, false, false, false, false, false, false, false, false, false, false, false, false] rfl rfl (by kernel_rfl) (fun _ _ _ h => h) (Or.inl ⟨by rfl, ?_⟩) ?_ ?_
                rotate_left
                · intro w'
                  go_simp
                  with_reducible rfl
                rotate_left
                · simp only [Act.put, List.setIfInBounds_toArray, List.set_cons_zero, List.set_cons_succ, Go.Proofs.YtogcjflneedcfaaDoorW.PrintLast.i64_w, Go.Proofs.YtogcjflneedcfaaDoorW.PrintLast.i32_w]
                  rfl
                refine Go.Proofs.YtogcjflneedcfaaDoorW.PrintLast.pure_ (i := 22) (N := some 123) (v := ?_) (a' := ?_) #[true, true, true, true, true, true, true, true, true, true, true, true, true, true, true, true, true, true, true, true, true, true, true, false, false, false, false, false, false, false, false, false, false, false, false, false, false, false] rfl rfl (by kernel_rfl) (fun _ _ _ h => h) (Or.inl ⟨by rfl, ?_⟩) ?_ ?_
                rotate_left
                · intro w'
                  go_simp
                  with_reducible rfl
                rotate_left
                · simp only [Act.put, List.setIfInBounds_toArray, List.set_cons_zero, List.set_cons_succ, Go.Proofs.YtogcjflneedcfaaDoorW.PrintLast.i64_w, Go.Proofs.YtogcjflneedcfaaDoorW.PrintLast.i32_w]
                  rfl
                refine Go.Proofs.YtogcjflneedcfaaDoorW.PrintLast.pure_ (i := 23) (N := some 124) (v := _) (a' := ?_) #[true, true, true, true, true, true, true, true, true, true, true, true, true, true, true, true, true, true, true, true, true, true, true, true, false, false, false, false, false, false, false, false, false, false, false, false, false, false] rfl rfl (by kernel_rfl) (fun _ _ _ h => h) (Or.inr ⟨by rfl, rfl⟩) ?_ ?_
                rotate_left
                · simp only [Act.put, List.setIfInBounds_toArray, List.set_cons_zero, List.set_cons_succ, Go.Proofs.YtogcjflneedcfaaDoorW.PrintLast.i64_w, Go.Proofs.YtogcjflneedcfaaDoorW.PrintLast.i32_w]
                  rfl
                refine Go.Proofs.YtogcjflneedcfaaDoorW.PrintLast.pure_ (i := 24) (N := some 125) (v := _) (a' := ?_) #[true, true, true, true, true, true, true, true, true, true, true, true, true, true, true, true, true, true, true, true, true, true, true, true, true, false, false, false, false, false, false, false, false, false, false, false, false, false] rfl rfl (by kernel_rfl) (fun _ _ _ h => h) (Or.inr ⟨by rfl, rfl⟩) ?_ ?_
                rotate_left
                · simp only [Act.put, List.setIfInBounds_toArray, List.set_cons_zero, List.set_cons_succ, Go.Proofs.YtogcjflneedcfaaDoorW.PrintLast.i64_w, Go.Proofs.YtogcjflneedcfaaDoorW.PrintLast.i32_w]
                  rfl
                refine Go.Proofs.YtogcjflneedcfaaDoorW.PrintLast.pure_ (i := 25) (N := some 126) (v := _) (a' := ?_) #[true, true, true, true, true, true, true, true, true, true, true, true, true, true, true, true, true, true, true, true, true, true, true, true, true, true, false, false, false, false, false, false, false, false, false, false, false, false] rfl rfl (by kernel_rfl) (fun _ _ _ h => h) (Or.inr ⟨by rfl, rfl⟩) ?_ ?_
                rotate_left
                · simp only [Act.put, List.setIfInBounds_toArray, List.set_cons_zero, List.set_cons_succ, Go.Proofs.YtogcjflneedcfaaDoorW.PrintLast.i64_w, Go.Proofs.YtogcjflneedcfaaDoorW.PrintLast.i32_w]
                  rfl
                refine Go.Proofs.YtogcjflneedcfaaDoorW.PrintLast.pure_ (i := 26) (N := some 127) (v := _) (a' := ?_) #[true, true, true, true, true, true, true, true, true, true, true, true, true, true, true, true, true, true, true, true, true, true, true, true, true, true, true, false, false, false, false, false, false, false, false, false, false, false] rfl rfl (by kernel_rfl) (fun _ _ _ h => h) (Or.inr ⟨by rfl, rfl⟩) ?_ ?_
                rotate_left
                · simp only [Act.put, List.setIfInBounds_toArray, List.set_cons_zero, List.set_cons_succ, Go.Proofs.YtogcjflneedcfaaDoorW.PrintLast.i64_w, Go.Proofs.YtogcjflneedcfaaDoorW.PrintLast.i32_w]
                  rfl
                refine Go.Proofs.YtogcjflneedcfaaDoorW.PrintLast.pure_ (i := 27) (N := some 128) (v := _) (a' := ?_) #[true, true, true, true, true, true, true, true, true, true, true, true, true, true, true, true, true, true, true, true, true, true, true, true, true, true, true, true, false, false, false, false, false, false, false, false, false, false] rfl rfl (by kernel_rfl) (fun _ _ _ h => h) (Or.inr ⟨by rfl, rfl⟩) ?_ ?_
                rotate_left
                · simp only [Act.put, List.setIfInBounds_toArray, List.set_cons_zero, List.set_cons_succ, Go.Proofs.YtogcjflneedcfaaDoorW.PrintLast.i64_w, Go.Proofs.YtogcjflneedcfaaDoorW.PrintLast.i32_w]
                  rfl
                refine Go.Proofs.YtogcjflneedcfaaDoorW.PrintLast.pure_ (i := 28) (N := some 129) (v := _) (a' := ?_) #[true, true, true, true, true, true, true, true, true, true, true, true, true, true, true, true, true, true, true, true, true, true, true, true, true, true, true, true, true, false, false, false, false, false, false, false, false, false] rfl rfl (by kernel_rfl) (fun _ _ _ h => h) (Or.inr ⟨by rfl, rfl⟩) ?_ ?_
                rotate_left
                · simp only [Act.put, List.setIfInBounds_toArray, List.set_cons_zero, List.set_cons_succ, Go.Proofs.YtogcjflneedcfaaDoorW.PrintLast.i64_w, Go.Proofs.YtogcjflneedcfaaDoorW.PrintLast.i32_w]
                  rfl
                refine Go.Proofs.YtogcjflneedcfaaDoorW.PrintLast.pure_ (i := 29) (N := some 130) (v := _) (a' := ?_) #[true, true, true, true, true, true, true, true, true, true, true, true, true, true, true, true, true, true, true, true, true, true, true, true, true, true, true, true, true, true, false, false, false, false, false, false, false, false] rfl rfl (by kernel_rfl) (fun _ _ _ h => h) (Or.inr ⟨by rfl, rfl⟩) ?_ ?_
                rotate_left
                · simp only [Act.put, List.setIfInBounds_toArray, List.set_cons_zero, List.set_cons_succ, Go.Proofs.YtogcjflneedcfaaDoorW.PrintLast.i64_w, Go.Proofs.YtogcjflneedcfaaDoorW.PrintLast.i32_w]
                  rfl
                refine Go.Proofs.YtogcjflneedcfaaDoorW.PrintLast.pure_ (i := 30) (N := some 131) (v := _) (a' := ?_) #[true, true, true, true, true, true, true, true, true, true, true, true, true, true, true, true, true, true, true, true, true, true, true, true, true, true, true, true, true, true, true, false, false, false, false, false, false, false] rfl rfl (by kernel_rfl) (fun _ _ _ h => h) (Or.inr ⟨by rfl, rfl⟩) ?_ ?_
                rotate_left
                · simp only [Act.put, List.setIfInBounds_toArray, List.set_cons_zero, List.set_cons_succ, Go.Proofs.YtogcjflneedcfaaDoorW.PrintLast.i64_w, Go.Proofs.YtogcjflneedcfaaDoorW.PrintLast.i32_w]
                  rfl
                refine Go.Proofs.YtogcjflneedcfaaDoorW.PrintLast.pure_ (i := 31) (N := some 132) (v := _) (a' := ?_) #[true, true, true, true, true, true, true, true, true, true, true, true, true, true, true, true, true, true, true, true, true, true, true, true, true, true, true, true, true, true, true, true, false, false, false, false, false, false] rfl rfl (by kernel_rfl) (fun _ _ _ h => h) (Or.inr ⟨by rfl, rfl⟩) ?_ ?_
                rotate_left
                · simp only [Act.put, List.setIfInBounds_toArray, List.set_cons_zero, List.set_cons_succ, Go.Proofs.YtogcjflneedcfaaDoorW.PrintLast.i64_w, Go.Proofs.YtogcjflneedcfaaDoorW.PrintLast.i32_w]
                  rfl
                refine Go.Proofs.YtogcjflneedcfaaDoorW.PrintLast.pure_ (i := 32) (N := some 133) (v := _) (a' := ?_) #[true, true, true, true, true, true, true, true, true, true, true, true, true, true, true, true, true, true, true, true, true, true, true, true, true, true, true, true, true, true, true, true, true, false, false, false, false, false] rfl rfl (by kernel_rfl) (fun _ _ _ h => h) (Or.inr ⟨by rfl, rfl⟩) ?_ ?_
                rotate_left
                · simp only [Act.put, List.setIfInBounds_toArray, List.set_cons_zero, List.set_cons_succ, Go.Proofs.YtogcjflneedcfaaDoorW.PrintLast.i64_w, Go.Proofs.YtogcjflneedcfaaDoorW.PrintLast.i32_w]
                  rfl
                refine Go.Proofs.YtogcjflneedcfaaDoorW.PrintLast.pure_ (i := 33) (N := some 134) (v := _) (a' := ?_) #[true, true, true, true, true, true, true, true, true, true, true, true, true, true, true, true, true, true, true, true, true, true, true, true, true, true, true, true, true, true, true, true, true, true, false, false, false, false] rfl rfl (by kernel_rfl) (fun _ _ _ h => h) (Or.inr ⟨by rfl, rfl⟩) ?_ ?_
                rotate_left
                · simp only [Act.put, List.setIfInBounds_toArray, List.set_cons_zero, List.set_cons_succ, Go.Proofs.YtogcjflneedcfaaDoorW.PrintLast.i64_w, Go.Proofs.YtogcjflneedcfaaDoorW.PrintLast.i32_w]
                  rfl
                refine Go.Proofs.YtogcjflneedcfaaDoorW.PrintLast.pure_ (i := 34) (N := some 135) (v := _) (a' := ?_) #[true, true, true, true, true, true, true, true, true, true, true, true, true, true, true, true, true, true, true, true, true, true, true, true, true, true, true, true, true, true, true, true, true, true, true, false, false, false] rfl rfl (by kernel_rfl) (fun _ _ _ h => h) (Or.inr ⟨by rfl, rfl⟩) ?_ ?_
                rotate_left
                · simp only [Act.put, List.setIfInBounds_toArray, List.set_cons_zero, List.set_cons_succ, Go.Proofs.YtogcjflneedcfaaDoorW.PrintLast.i64_w, Go.Proofs.YtogcjflneedcfaaDoorW.PrintLast.i32_w]
                  rfl
                refine Go.Proofs.YtogcjflneedcfaaDoorW.PrintLast.pure_ (i := 35) (N := some 136) (v := _) (a' := ?_) #[true, true, true, true, true, true, true, true, true, true, true, true, true, true, true, true, true, true, true, true, true, true, true, true, true, true, true, true, true, true, true, true, true, true, true, true, false, false] rfl rfl (by kernel_rfl) (fun _ _ _ h => h) (Or.inr ⟨by rfl, rfl⟩) ?_ ?_
                rotate_left
                · simp only [Act.put, List.setIfInBounds_toArray, List.set_cons_zero, List.set_cons_succ, Go.Proofs.YtogcjflneedcfaaDoorW.PrintLast.i64_w, Go.Proofs.YtogcjflneedcfaaDoorW.PrintLast.i32_w]
                  rfl
                refine Go.Proofs.YtogcjflneedcfaaDoorW.PrintLast.pure_ (i := 36) (N := some 137) (v := _) (a' := ?_) #[true, true, true, true, true, true, true, true, true, true, true, true, true, true, true, true, true, true, true, true, true, true, true, true, true, true, true, true, true, true, true, true, true, true, true, true, true, false] rfl rfl (by kernel_rfl) (fun _ _ _ h => h) (Or.inr ⟨by rfl, rfl⟩) ?_ ?_
                rotate_left
                · simp only [Act.put, List.setIfInBounds_toArray, List.set_cons_zero, List.set_cons_succ, Go.Proofs.YtogcjflneedcfaaDoorW.PrintLast.i64_w, Go.Proofs.YtogcjflneedcfaaDoorW.PrintLast.i32_w]
                  rfl
                refine Go.Proofs.YtogcjflneedcfaaDoorW.PrintLast.pure_ (i := 37) (N := some 138) (v := ?_) (a' := ?_) #[true, true, true, true, true, true, true, true, true, true, true, true, true, true, true, true, true, true, true, true, true, true, true, true, true, true, true, true, true, true, true, true, true, true, true, true, true, true] rfl rfl (by kernel_rfl) (fun _ _ _ h => h) (Or.inl ⟨by rfl, ?_⟩) ?_ ?_
                rotate_left
                · intro w'
                  go_simp
                  with_reducible rfl
                rotate_left
                · simp only [Act.put, List.setIfInBounds_toArray, List.set_cons_zero, List.set_cons_succ, Go.Proofs.YtogcjflneedcfaaDoorW.PrintLast.i64_w, Go.Proofs.YtogcjflneedcfaaDoorW.PrintLast.i32_w]
                  rfl
                refine Go.Proofs.YtogcjflneedcfaaDoorW.PrintLast.done_ (by kernel_rfl) ?_
                clear hHeld x0 x1 x2 x3 x4 x5 x6 x7 x8
                go_wp2_with fail
                go_roundw
                case rel => exact ⟨k + 1, by go_num, by omega, HB.out.drew⟩
                case measure => simp [intOf]; omega
              · rw [hsb] at x8
                have HSB := Lib.hid hsb
                have HHAS := Lib.hid (HSH.out r (List.mem_of_getElem? HR.out) HX.out HGB.out hsb)
                clear hsb
                go_wp2_with fail
                refine Go.Proofs.YtogcjflneedcfaaDoorW.PrintLast.start_ (n := 38) (S := fun v => v.cell? ⟨g, k * 9, none⟩ = some (.int .i64 r.tx) ∧ v.cell? ⟨g, k * 9 + 1, none⟩ = some (.int .i64 r.o.s) ∧ v.cell? ⟨g, k * 9 + 2, none⟩ = some (.string r.o.t) ∧ v.cell? ⟨g, k * 9 + 3, none⟩ = some (.string r.o.l) ∧ v.cell? ⟨g, k * 9 + 4, none⟩ = some (.string r.o.u) ∧ v.cell? ⟨g, k * 9 + 5, none⟩ = some (.bool r.o.e) ∧ v.cell? ⟨g, k * 9 + 6, none⟩ = some (.int .i64 r.m) ∧ v.cell? ⟨g, k * 9 + 7, none⟩ = some (.bool true) ∧ v.cell? ⟨g, k * 9 + 8, none⟩ = some (.bool false)) (ds := [37]) #[false, false, false, false, false, false, false, false, false, false, false, false, false, false, false, false, false, false, false, false, false, false, false, false, false, false, false, false, false, false, false, false, false, false, false, false, false, false] (by kernel_rfl) rfl rfl ⟨x0, x1, x2, x3, x4, x5, x6, x7, x8⟩ (fun hHeld => ?_)
                refine Go.Proofs.YtogcjflneedcfaaDoorW.PrintLast.pure_ (i := 0) (N := some 101) (v := ?_) (a' := ?_) #[true, false, false, false, false, false, false, false, false, false, false, false, false, false, false, false, false, false, false, false, false, false, false, false, false, false, false, false, false, false, false, false, false, false, false, false, false, false] rfl rfl (by kernel_rfl) (fun _ _ _ h => h) (Or.inl ⟨by rfl, ?_⟩) ?_ ?_
                rotate_left
                · intro w'
                  go_simp
                  with_reducible rfl
                rotate_left
                · simp only [Act.put, List.setIfInBounds_toArray, List.set_cons_zero, List.set_cons_succ, Go.Proofs.YtogcjflneedcfaaDoorW.PrintLast.i64_w, Go.Proofs.YtogcjflneedcfaaDoorW.PrintLast.i32_w]
                  rfl
                refine Go.Proofs.YtogcjflneedcfaaDoorW.PrintLast.pure_ (i := 1) (N := some 102) (v := ?_) (a' := ?_) #[true, true, false, false, false, false, false, false, false, false, false, false, false, false, false, false, false, false, false, false, false, false, false, false, false, false, false, false, false, false, false, false, false, false, false, false, false, false] rfl rfl (by kernel_rfl) (fun _ _ _ h => h) (Or.inl ⟨by rfl, ?_⟩) ?_ ?_
                rotate_left
                · intro w'
                  go_simp
                  with_reducible rfl
                rotate_left
                · simp only [Act.put, List.setIfInBounds_toArray, List.set_cons_zero, List.set_cons_succ, Go.Proofs.YtogcjflneedcfaaDoorW.PrintLast.i64_w, Go.Proofs.YtogcjflneedcfaaDoorW.PrintLast.i32_w]
                  rfl
                refine Go.Proofs.YtogcjflneedcfaaDoorW.PrintLast.pure_ (i := 2) (N := some 103) (v := ?_) (a' := ?_) #[true, true, true, false, false, false, false, false, false, false, false, false, false, false, false, false, false, false, false, false, false, false, false, false, false, false, false, false, false, false, false, false, false, false, false, false, false, false] rfl rfl (by kernel_rfl) (fun _ _ _ h => h) (Or.inl ⟨by rfl, ?_⟩) ?_ ?_
                rotate_left
                · intro w'
                  go_simp
                  with_reducible rfl
                rotate_left
                · simp only [Act.put, List.setIfInBounds_toArray, List.set_cons_zero, List.set_cons_succ, Go.Proofs.YtogcjflneedcfaaDoorW.PrintLast.i64_w, Go.Proofs.YtogcjflneedcfaaDoorW.PrintLast.i32_w]
                  rfl
                refine Go.Proofs.YtogcjflneedcfaaDoorW.PrintLast.pure_ (i := 3) (N := some 104) (v := ?_) (a' := ?_) #[true, true, true, true, false, false, false, false, false, false, false, false, false, false, false, false, false, false, false, false, false, false, false, false, false, false, false, false, false, false, false, false, false, false, false, false, false, false] rfl rfl (by kernel_rfl) (fun _ _ _ h => h) (Or.inl ⟨by rfl, ?_⟩) ?_ ?_
                rotate_left
                · intro w'
                  go_simp
                  with_reducible rfl
                rotate_left
                · simp only [Act.put, List.setIfInBounds_toArray, List.set_cons_zero, List.set_cons_succ, Go.Proofs.YtogcjflneedcfaaDoorW.PrintLast.i64_w, Go.Proofs.YtogcjflneedcfaaDoorW.PrintLast.i32_w]
                  rfl
                refine Go.Proofs.YtogcjflneedcfaaDoorW.PrintLast.take_ (i := 4) (N := some 105) (v := ?_) (a' := ?_) #[true, true, true, true, true, false, false, false, false, false, false, false, false, false, false, false, false, false, false, false, false, false, false, false, false, false, false, false, false, false, false, false, false, false, false, false, false, false] rfl rfl (by kernel_rfl) (fun _ _ _ h => h) (Or.inl ⟨by rfl, ?_⟩) hHeld ?_ ?_
                rotate_left
                · rintro w' ⟨s0, s1, s2, s3, s4, s5, s6, s7, s8⟩
                  go_simp
                  with_reducible rfl
                rotate_left
                · simp only [Act.put, List.setIfInBounds_toArray, List.set_cons_zero, List.set_cons_succ, Go.Proofs.YtogcjflneedcfaaDoorW.PrintLast.i64_w, Go.Proofs.YtogcjflneedcfaaDoorW.PrintLast.i32_w]
                  rfl
                refine Go.Proofs.YtogcjflneedcfaaDoorW.PrintLast.pure_ (i := 5) (N := some 106) (v := ?_) (a' := ?_) #[true, true, true, true, true, true, false, false, false, false, false, false, false, false, false, false, false, false, false, false, false, false, false, false, false, false, false, false, false, false, false, false, false, false, false, false, false, false] rfl rfl (by kernel_rfl) (fun _ _ _ h => h) (Or.inl ⟨by rfl, ?_⟩) ?_ ?_
                rotate_left
                · intro w'
                  go_simp
                  with_reducible rfl
                rotate_left
                · simp only [Act.put, List.setIfInBounds_toArray, List.set_cons_zero, List.set_cons_succ, Go.Proofs.YtogcjflneedcfaaDoorW.PrintLast.i64_w, Go.Proofs.YtogcjflneedcfaaDoorW.PrintLast.i32_w]
                  rfl
                refine Go.Proofs.YtogcjflneedcfaaDoorW.PrintLast.pure_ (i := 6) (N := some 107) (v := ?_) (a' := ?_) #[true, true, true, true, true, true, true, false, false, false, false, false, false, false, false, false, false, false, false, false, false, false, false, false, false, false, false, false, false, false, false, false, false, false, false, false, false, false] rfl rfl (by kernel_rfl) (fun _ _ _ h => h) (Or.inl ⟨by rfl, ?_⟩) ?_ ?_
                rotate_left
                · intro w'
                  go_simp
                  with_reducible rfl
                rotate_left
                · simp only [Act.put, List.setIfInBounds_toArray, List.set_cons_zero, List.set_cons_succ, Go.Proofs.YtogcjflneedcfaaDoorW.PrintLast.i64_w, Go.Proofs.YtogcjflneedcfaaDoorW.PrintLast.i32_w]
                  rfl
                refine Go.Proofs.YtogcjflneedcfaaDoorW.PrintLast.pure_ (i := 7) (N := some 108) (v := ?_) (a' := ?_) #[true, true, true, true, true, true, true, true, false, false, false, false, false, false, false, false, false, false, false, false, false, false, false, false, false, false, false, false, false, false, false, false, false, false, false, false, false, false] rfl rfl (by kernel_rfl) (fun _ _ _ h => h) (Or.inl ⟨by rfl, ?_⟩) ?_ ?_
                rotate_left
                · intro w'
                  go_simp
                  with_reducible rfl
                rotate_left
                · simp only [Act.put, List.setIfInBounds_toArray, List.set_cons_zero, List.set_cons_succ, Go.Proofs.YtogcjflneedcfaaDoorW.PrintLast.i64_w, Go.Proofs.YtogcjflneedcfaaDoorW.PrintLast.i32_w]
                  rfl
                refine Go.Proofs.YtogcjflneedcfaaDoorW.PrintLast.pure_ (i := 8) (N := some 109) (v := ?_) (a' := ?_) #[true, true, true, true, true, true, true, true, true, false, false, false, false, false, false, false, false, false, false, false, false, false, false, false, false, false, false, false, false, false, false, false, false, false, false, false, false, false] rfl rfl (by kernel_rfl) (fun _ _ _ h => h) (Or.inl ⟨by rfl, ?_⟩) ?_ ?_
                rotate_left
                · intro w'
                  go_simp
                  with_reducible rfl
                rotate_left
                · simp only [Act.put, List.setIfInBounds_toArray, List.set_cons_zero, List.set_cons_succ, Go.Proofs.YtogcjflneedcfaaDoorW.PrintLast.i64_w, Go.Proofs.YtogcjflneedcfaaDoorW.PrintLast.i32_w]
                  rfl
                refine Go.Proofs.YtogcjflneedcfaaDoorW.PrintLast.pure_ (i := 9) (N := some 110) (v := ?_) (a' := ?_) #[true, true, true, true, true, true, true, true, true, true, false, false, false, false, false, false, false, false, false, false, false, false, false, false, false, false, false, false, false, false, false, false, false, false, false, false, false, false] rfl rfl (by kernel_rfl) (fun _ _ _ h => h) (Or.inl ⟨by rfl, ?_⟩) ?_ ?_
                rotate_left
                · intro w'
                  go_simp
                  with_reducible rfl
                rotate_left
                · simp only [Act.put, List.setIfInBounds_toArray, List.set_cons_zero, List.set_cons_succ, Go.Proofs.YtogcjflneedcfaaDoorW.PrintLast.i64_w, Go.Proofs.YtogcjflneedcfaaDoorW.PrintLast.i32_w]
                  rfl
                refine Go.Proofs.YtogcjflneedcfaaDoorW.PrintLast.pure_ (i := 10) (N := some 111) (v := ?_) (a' := ?_) #[true, true, true, true, true, true, true, true, true, true, true, false, false, false, false, false, false, false, false, false, false, false, false, false, false, false, false, false, false, false, false, false, false, false, false, false, false, false] rfl rfl (by kernel_rfl) (fun _ _ _ h => h) (Or.inl ⟨by rfl, ?_⟩) ?_ ?_
                rotate_left
                · intro w'
                  go_simp
                  with_reducible rfl
                rotate_left
                · simp only [Act.put, List.setIfInBounds_toArray, List.set_cons_zero, List.set_cons_succ, Go.Proofs.YtogcjflneedcfaaDoorW.PrintLast.i64_w, Go.Proofs.YtogcjflneedcfaaDoorW.PrintLast.i32_w]
                  rfl
                refine Go.Proofs.YtogcjflneedcfaaDoorW.PrintLast.pure_ (i := 11) (N := some 112) (v := ?_) (a' := ?_) #[true, true, true, true, true, true, true, true, true, true, true, true, false, false, false, false, false, false, false, false, false, false, false, false, false, false, false, false, false, false, false, false, false, false, false, false, false, false] rfl rfl (by kernel_rfl) (fun _ _ _ h => h) (Or.inl ⟨by rfl, ?_⟩) ?_ ?_
                rotate_left
                · intro w'
                  go_simp
                  with_reducible rfl
                rotate_left
                · simp only [Act.put, List.setIfInBounds_toArray, List.set_cons_zero, List.set_cons_succ, Go.Proofs.YtogcjflneedcfaaDoorW.PrintLast.i64_w, Go.Proofs.YtogcjflneedcfaaDoorW.PrintLast.i32_w]
                  rfl
                refine Go.Proofs.YtogcjflneedcfaaDoorW.PrintLast.take_ (i := 12) (N := some 113) (v := ?_) (a' := ?_) #[true, true, true, true, true, true, true, true, true, true, true, true, true, false, false, false, false, false, false, false, false, false, false, false, false, false, false, false, false, false, false, false, false, false, false, false, false, false] rfl rfl (by kernel_rfl) (fun _ _ _ h => h) (Or.inl ⟨by rfl, ?_⟩) hHeld ?_ ?_
                rotate_left
                · rintro w' ⟨s0, s1, s2, s3, s4, s5, s6, s7, s8⟩
                  go_simp
                  with_reducible rfl
                rotate_left
                · simp only [Act.put, List.setIfInBounds_toArray, List.set_cons_zero, List.set_cons_succ, Go.Proofs.YtogcjflneedcfaaDoorW.PrintLast.i64_w, Go.Proofs.YtogcjflneedcfaaDoorW.PrintLast.i32_w]
                  rfl
                refine Go.Proofs.YtogcjflneedcfaaDoorW.PrintLast.pure_ (i := 13) (N := some 114) (v := ?_) (a' := ?_) #[true, true, true, true, true, true, true, true, true, true, true, true, true, true, false, false, false, false, false, false, false, false, false, false, false, false, false, false, false, false, false, false, false, false, false, false, false, false] rfl rfl (by kernel_rfl) (fun _ _ _ h => h) (Or.inl ⟨by rfl, ?_⟩) ?_ ?_
                rotate_left
                · intro w'
                  go_simp
                  with_reducible rfl
                rotate_left
                · simp only [Act.put, List.setIfInBounds_toArray, List.set_cons_zero, List.set_cons_succ, Go.Proofs.YtogcjflneedcfaaDoorW.PrintLast.i64_w, Go.Proofs.YtogcjflneedcfaaDoorW.PrintLast.i32_w]
                  rfl
                refine Go.Proofs.YtogcjflneedcfaaDoorW.PrintLast.pure_ (i := 14) (N := some 115) (v := ?_) (a' := ?_) #[true, true, true, true, true, true, true, true, true, true, true, true, true, true, true, false, false, false, false, false, false, false, false, false, false, false, false, false, false, false, false, false, false, false, false, false, false, false] rfl rfl (by kernel_rfl) (fun _ _ _ h => h) (Or.inl ⟨by rfl, ?_⟩) ?_ ?_
                rotate_left
                · intro w'
                  go_simp
                  with_reducible rfl
                rotate_left
                · simp only [Act.put, List.setIfInBounds_toArray, List.set_cons_zero, List.set_cons_succ, Go.Proofs.YtogcjflneedcfaaDoorW.PrintLast.i64_w, Go.Proofs.YtogcjflneedcfaaDoorW.PrintLast.i32_w]
                  rfl
                refine Go.Proofs.YtogcjflneedcfaaDoorW.PrintLast.pure_ (i := 15) (N := some 116) (v := ?_) (a' := ?_) #[true, true, true, true, true, true, true, true, true, true, true, true, true, true, true, true, false, false, false, false, false, false, false, false, false, false, false, false, false, false, false, false, false, false, false, false, false, false] rfl rfl (by kernel_rfl) (fun _ _ _ h => h) (Or.inl ⟨by rfl, ?_⟩) ?_ ?_
                rotate_left
                · intro w'
                  go_simp
                  with_reducible rfl
                rotate_left
                · simp only [Act.put, List.setIfInBounds_toArray, List.set_cons_zero, List.set_cons_succ, Go.Proofs.YtogcjflneedcfaaDoorW.PrintLast.i64_w, Go.Proofs.YtogcjflneedcfaaDoorW.PrintLast.i32_w]
                  rfl
                refine Go.Proofs.YtogcjflneedcfaaDoorW.PrintLast.pure_ (i := 16) (N := some 117) (v := ?_) (a' := ?_) #[true, true, true, true, true, true, true, true, true, true, true, true, true, true, true, true, true, false, false, false, false, false, false, false, false, false, false, false, false, false, false, false, false, false, false, false, false, false] rfl rfl (by kernel_rfl) (fun _ _ _ h => h) (Or.inl ⟨by rfl, ?_⟩) ?_ ?_
                rotate_left
                · intro w'
                  go_simp
                  with_reducible rfl
                rotate_left
                · simp only [Act.put, List.setIfInBounds_toArray, List.set_cons_zero, List.set_cons_succ, Go.Proofs.YtogcjflneedcfaaDoorW.PrintLast.i64_w, Go.Proofs.YtogcjflneedcfaaDoorW.PrintLast.i32_w]
                  rfl
                refine Go.Proofs.YtogcjflneedcfaaDoorW.PrintLast.pure_ (i := 17) (N := some 118) (v := ?_) (a' := ?_) #[true, true, true, true, true, true, true, true, true, true, true, true, true, true, true, true, true, true, false, false, false, false, false, false, false, false, false, false, false, false, false, false, false, false, false, false, false, false] rfl rfl (by kernel_rfl) (fun _ _ _ h => h) (Or.inl ⟨by rfl, ?_⟩) ?_ ?_
                rotate_left
                · intro w'
                  go_simp
                  with_reducible rfl
                rotate_left
                · simp only [Act.put, List.setIfInBounds_toArray, List.set_cons_zero, List.set_cons_succ, Go.Proofs.YtogcjflneedcfaaDoorW.PrintLast.i64_w, Go.Proofs.YtogcjflneedcfaaDoorW.PrintLast.i32_w]
                  rfl
                refine Go.Proofs.YtogcjflneedcfaaDoorW.PrintLast.pure_ (i := 18) (N := some 119) (v := ?_) (a' := ?_) #[true, true, true, true, true, true, true, true, true, true, true, true, true, true, true, true, true, true, true, false, false, false, false, false, false, false, false, false, false, false, false, false, false, false, false, false, false, false] rfl rfl (by kernel_rfl) (fun _ _ _ h => h) (Or.inl ⟨by rfl, ?_⟩) ?_ ?_
                rotate_left
                · intro w'
                  go_simp
                  with_reducible rfl
                rotate_left
                · simp only [Act.put, List.setIfInBounds_toArray, List.set_cons_zero, List.set_cons_succ, Go.Proofs.YtogcjflneedcfaaDoorW.PrintLast.i64_w, Go.Proofs.YtogcjflneedcfaaDoorW.PrintLast.i32_w]
                  rfl
                refine Go.Proofs.YtogcjflneedcfaaDoorW.PrintLast.take_ (i := 19) (N := some 120) (v := ?_) (a' := ?_) #[true, true, true, true, true, true, true, true, true, true, true, true, true, true, true, true, true, true, true, true, false, false, false, false, false, false, false, false, false, false, false, false, false, false, false, false, false, false] rfl rfl (by kernel_rfl) (fun _ _ _ h => h) (Or.inl ⟨by rfl, ?_⟩) hHeld ?_ ?_
                rotate_left
                · rintro w' ⟨s0, s1, s2, s3, s4, s5, s6, s7, s8⟩
                  go_simp
                  with_reducible rfl
                rotate_left
                · simp only [Act.put, List.setIfInBounds_toArray, List.set_cons_zero, List.set_cons_succ, Go.Proofs.YtogcjflneedcfaaDoorW.PrintLast.i64_w, Go.Proofs.YtogcjflneedcfaaDoorW.PrintLast.i32_w]
                  rfl
                refine Go.Proofs.YtogcjflneedcfaaDoorW.PrintLast.pure_ (i := 20) (N := some 121) (v := ?_) (a' := ?_) #[true, true, true, true, true, true, true, true, true, true, true, true, true, true, true, true, true, true, true, true, true, false, false, false, false, false, false, false, false, false, false, false, false, false, false, false, false, false] rfl rfl (by kernel_rfl) (fun _ _ _ h => h) (Or.inl ⟨by rfl, ?_⟩) ?_ ?_
                rotate_left
                · intro w'
                  go_simp
                  with_reducible rfl
                rotate_left
                · simp only [Act.put, List.setIfInBounds_toArray, List.set_cons_zero, List.set_cons_succ, Go.Proofs.YtogcjflneedcfaaDoorW.PrintLast.i64_w, Go.Proofs.YtogcjflneedcfaaDoorW.PrintLast.i32_w]
                  rfl
                refine Go.Proofs.YtogcjflneedcfaaDoorW.PrintLast.pure_ (i := 21) (N := some 122) (v := ?_) (a' := ?_) #[true, true, true, true, true, true, true, true, true, true, true, true, true, true, true, true, true, true, true, true, true, true, false, false, false, false, false, false, false, false, false, false, false, false, false, false, false, false] rfl rfl (by kernel_rfl) (fun _ _ _ h => h) (Or.inl ⟨by rfl, ?_⟩) ?_ ?_
                rotate_left
                · intro w'
                  go_simp
                  with_reducible rfl
                rotate_left
                · simp only [Act.put, List.setIfInBounds_toArray, List.set_cons_zero, List.set_cons_succ, Go.Proofs.YtogcjflneedcfaaDoorW.PrintLast.i64_w, Go.Proofs.YtogcjflneedcfaaDoorW.PrintLast.i32_w]
                  rfl
                refine Go.Proofs.YtogcjflneedcfaaDoorW.PrintLast.pure_ (i := 22) (N := some 123) (v := ?_) (a' := ?_) #[true, true, true, true, true, true, true, true, true, true, true, true, true, true, true, true, true, true, true, true, true, true, true, false, false, false, false, false, false, false, false, false, false, false, false, false, false, false] rfl rfl (by kernel_rfl) (fun _ _ _ h => h) (Or.inl ⟨by rfl, ?_⟩) ?_ ?_
                rotate_left
                · intro w'
                  go_simp
                  with_reducible rfl
                rotate_left
                · simp only [Act.put, List.setIfInBounds_toArray, List.set_cons_zero, List.set_cons_succ, Go.Proofs.YtogcjflneedcfaaDoorW.PrintLast.i64_w, Go.Proofs.YtogcjflneedcfaaDoorW.PrintLast.i32_w]
                  rfl
                refine Go.Proofs.YtogcjflneedcfaaDoorW.PrintLast.pure_ (i := 23) (N := some 124) (v := ?_) (a' := ?_) #[true, true, true, true, true, true, true, true, true, true, true, true, true, true, true, true, true, true, true, true, true, true, true, true, false, false, false, false, false, false, false, false, false, false, false, false, false, false] rfl rfl (by kernel_rfl) (fun _ _ _ h => h) (Or.inl ⟨by rfl, ?_⟩) ?_ ?_
                rotate_left
                · intro w'
                  go_simp
                  with_reducible rfl
                rotate_left
                · simp only [Act.put, List.setIfInBounds_toArray, List.set_cons_zero, List.set_cons_succ, Go.Proofs.YtogcjflneedcfaaDoorW.PrintLast.i64_w, Go.Proofs.YtogcjflneedcfaaDoorW.PrintLast.i32_w]
                  rfl
                refine Go.Proofs.YtogcjflneedcfaaDoorW.PrintLast.pure_ (i := 24) (N := some 125) (v := ?_) (a' := ?_) #[true, true, true, true, true, true, true, true, true, true, true, true, true, true, true, true, true, true, true, true, true, true, true, true, true, false, false, false, false, false, false, false, false, false, false, false, false, false] rfl rfl (by kernel_rfl) (fun _ _ _ h => h) (Or.inl ⟨by rfl, ?_⟩) ?_ ?_
                rotate_left
                · intro w'
                  go_simp
                  with_reducible rfl
                rotate_left
                · simp only [Act.put, List.setIfInBounds_toArray, List.set_cons_zero, List.set_cons_succ, Go.Proofs.YtogcjflneedcfaaDoorW.PrintLast.i64_w, Go.Proofs.YtogcjflneedcfaaDoorW.PrintLast.i32_w]
                  rfl
                refine Go.Proofs.YtogcjflneedcfaaDoorW.PrintLast.pure_ (i := 25) (N := some 126) (v := ?_) (a' := ?_) #[true, true, true, true, true, true, true, true, true, true, true, true, true, true, true, true, true, true, true, true, true, true, true, true, true, true, false, false, false, false, false, false, false, false, false, false, false, false] rfl rfl (by kernel_rfl) (fun _ _ _ h => h) (Or.inl ⟨by rfl, ?_⟩) ?_ ?_
                rotate_left
                · intro w'
                  go_simp
                  with_reducible rfl
                rotate_left
                · simp only [Act.put, List.setIfInBounds_toArray, List.set_cons_zero, List.set_cons_succ, Go.Proofs.YtogcjflneedcfaaDoorW.PrintLast.i64_w, Go.Proofs.YtogcjflneedcfaaDoorW.PrintLast.i32_w]
                  rfl
                refine Go.Proofs.YtogcjflneedcfaaDoorW.PrintLast.pure_ (i := 26) (N := some 127) (v := ?_) (a' := ?_) #[true, true, true, true, true, true, true, true, true, true, true, true, true, true, true, true, true, true, true, true, true, true, true, true, true, true, true, false, false, false, false, false, false, false, false, false, false, false] rfl rfl (by kernel_rfl) (fun _ _ _ h => h) (Or.inl ⟨by rfl, ?_⟩) ?_ ?_
                rotate_left
                · intro w'
                  go_simp
                  with_reducible rfl
                rotate_left
                · simp only [Act.put, List.setIfInBounds_toArray, List.set_cons_zero, List.set_cons_succ, Go.Proofs.YtogcjflneedcfaaDoorW.PrintLast.i64_w, Go.Proofs.YtogcjflneedcfaaDoorW.PrintLast.i32_w]
                  rfl
                refine Go.Proofs.YtogcjflneedcfaaDoorW.PrintLast.pure_ (i := 27) (N := some 128) (v := ?_) (a' := ?_) #[true, true, true, true, true, true, true, true, true, true, true, true, true, true, true, true, true, true, true, true, true, true, true, true, true, true, true, true, false, false, false, false, false, false, false, false, false, false] rfl rfl (by kernel_rfl) (fun _ _ _ h => h) (Or.inl ⟨by rfl, ?_⟩) ?_ ?_
                rotate_left
                · intro w'
                  go_simp
                  with_reducible rfl
                rotate_left
                · simp only [Act.put, List.setIfInBounds_toArray, List.set_cons_zero, List.set_cons_succ, Go.Proofs.YtogcjflneedcfaaDoorW.PrintLast.i64_w, Go.Proofs.YtogcjflneedcfaaDoorW.PrintLast.i32_w]
                  rfl
                refine Go.Proofs.YtogcjflneedcfaaDoorW.PrintLast.pure_ (i := 28) (N := some 129) (v := ?_) (a' := ?_) #[true, true, true, true, true, true, true, true, true, true, true, true, true, true, true, true, true, true, true, true, true, true, true, true, true, true, true, true, true, false, false, false, false, false, false, false, false, false] rfl rfl (by kernel_rfl) (fun _ _ _ h => h) (Or.inl ⟨by rfl, ?_⟩) ?_ ?_
                rotate_left
                · intro w'
                  go_simp
                  with_reducible rfl
                rotate_left
                · simp only [Act.put, List.setIfInBounds_toArray, List.set_cons_zero, List.set_cons_succ, Go.Proofs.YtogcjflneedcfaaDoorW.PrintLast.i64_w, Go.Proofs.YtogcjflneedcfaaDoorW.PrintLast.i32_w]
                  rfl
                refine Go.Proofs.YtogcjflneedcfaaDoorW.PrintLast.take_ (i := 29) (N := some 130) (v := ?_) (a' := ?_) #[true, true, true, true, true, true, true, true, true, true, true, true, true, true, true, true, true, true, true, true, true, true, true, true, true, true, true, true, true, true, false, false, false, false, false, false, false, false] rfl rfl (by kernel_rfl) (fun _ _ _ h => h) (Or.inl ⟨by rfl, ?_⟩) hHeld ?_ ?_
                rotate_left
                · rintro w' ⟨s0, s1, s2, s3, s4, s5, s6, s7, s8⟩
                  go_simp
                  with_reducible rfl
                rotate_left
                · simp only [Act.put, List.setIfInBounds_toArray, List.set_cons_zero, List.set_cons_succ, Go.Proofs.YtogcjflneedcfaaDoorW.PrintLast.i64_w, Go.Proofs.YtogcjflneedcfaaDoorW.PrintLast.i32_w]
                  rfl
                refine Go.Proofs.YtogcjflneedcfaaDoorW.PrintLast.pure_ (i := 30) (N := some 131) (v := ?_) (a' := ?_) #[true, true, true, true, true, true, true, true, true, true, true, true, true, true, true, true, true, true, true, true, true, true, true, true, true, true, true, true, true, true, true, false, false, false, false, false, false, false] rfl rfl (by kernel_rfl) (fun _ _ _ h => h) (Or.inl ⟨by rfl, ?_⟩) ?_ ?_
                rotate_left
                · intro w'
                  go_simp
                  with_reducible rfl
                rotate_left
                · simp only [Act.put, List.setIfInBounds_toArray, List.set_cons_zero, List.set_cons_succ, Go.Proofs.YtogcjflneedcfaaDoorW.PrintLast.i64_w, Go.Proofs.YtogcjflneedcfaaDoorW.PrintLast.i32_w]
                  rfl
                refine Go.Proofs.YtogcjflneedcfaaDoorW.PrintLast.pure_ (i := 31) (N := some 132) (v := ?_) (a' := ?_) #[true, true, true, true, true, true, true, true, true, true, true, true, true, true, true, true, true, true, true, true, true, true, true, true, true, true, true, true, true, true, true, true, false, false, false, false, false, false] rfl rfl (by kernel_rfl) (fun _ _ _ h => h) (Or.inl ⟨by rfl, ?_⟩) ?_ ?_
                rotate_left
                · intro w'
                  go_simp
                  with_reducible rfl
                rotate_left
                · simp only [Act.put, List.setIfInBounds_toArray, List.set_cons_zero, List.set_cons_succ, Go.Proofs.YtogcjflneedcfaaDoorW.PrintLast.i64_w, Go.Proofs.YtogcjflneedcfaaDoorW.PrintLast.i32_w]
                  rfl
                refine Go.Proofs.YtogcjflneedcfaaDoorW.PrintLast.pure_ (i := 32) (N := some 133) (v := ?_) (a' := ?_) #[true, true, true, true, true, true, true, true, true, true, true, true, true, true, true, true, true, true, true, true, true, true, true, true, true, true, true, true, true, true, true, true, true, false, false, false, false, false] rfl rfl (by kernel_rfl) (fun _ _ _ h => h) (Or.inl ⟨by rfl, ?_⟩) ?_ ?_
                rotate_left
                · intro w'
                  go_simp
                  with_reducible rfl
                rotate_left
                · simp only [Act.put, List.setIfInBounds_toArray, List.set_cons_zero, List.set_cons_succ, Go.Proofs.YtogcjflneedcfaaDoorW.PrintLast.i64_w, Go.Proofs.YtogcjflneedcfaaDoorW.PrintLast.i32_w]
                  rfl
                refine Go.Proofs.YtogcjflneedcfaaDoorW.PrintLast.pure_ (i := 33) (N := some 134) (v := ?_) (a' := ?_) #[true, true, true, true, true, true, true, true, true, true, true, true, true, true, true, true, true, true, true, true, true, true, true, true, true, true, true, true, true, true, true, true, true, true, false, false, false, false] rfl rfl (by kernel_rfl) (fun _ _ _ h => h) (Or.inl ⟨by rfl, ?_⟩) ?_ ?_
                rotate_left
                · intro w'
                  go_simp
                  with_reducible rfl
                rotate_left
                · simp only [Act.put, List.setIfInBounds_toArray, List.set_cons_zero, List.set_cons_succ, Go.Proofs.YtogcjflneedcfaaDoorW.PrintLast.i64_w, Go.Proofs.YtogcjflneedcfaaDoorW.PrintLast.i32_w]
                  rfl
                refine Go.Proofs.YtogcjflneedcfaaDoorW.PrintLast.take_ (i := 34) (N := some 135) (v := ?_) (a' := ?_) #[true, true, true, true, true, true, true, true, true, true, true, true, true, true, true, true, true, true, true, true, true, true, true, true, true, true, true, true, true, true, true, true, true, true, true, false, false, false] rfl rfl (by kernel_rfl) (fun _ _ _ h => h) (Or.inl ⟨by rfl, ?_⟩) hHeld ?_ ?_
                rotate_left
                · rintro w' ⟨s0, s1, s2, s3, s4, s5, s6, s7, s8⟩
                  go_simp
                  with_reducible rfl
                rotate_left
                · simp only [Act.put, List.setIfInBounds_toArray, List.set_cons_zero, List.set_cons_succ, Go.Proofs.YtogcjflneedcfaaDoorW.PrintLast.i64_w, Go.Proofs.YtogcjflneedcfaaDoorW.PrintLast.i32_w]
                  rfl
                refine Go.Proofs.YtogcjflneedcfaaDoorW.PrintLast.one_ (i := 35) (N := some 136) #[true, true, true, true, true, true, true, true, true, true, true, true, true, true, true, true, true, true, true, true, true, true, true, true, true, true, true, true, true, true, true, true, true, true, true, true, false, false] rfl rfl (by kernel_rfl) (by decide) (fun K hK => ?_)
                refine Go.Proofs.YtogcjflneedcfaaDoorW.PrintLast.goes_ Tryd.func17 (by kernel_rfl) rfl #[(.pointer (some ⟨w.heap.size, 0, none⟩)), .int .i64 tx, .agg #[.int .i64 r.o.s, .string r.o.t, .string r.o.l, .string r.o.u, .bool r.o.e], .int .i64 r.m] (by rfl) rfl rfl (by (try simp only [List.map_toArray, List.map_cons, List.map_nil]); first | done | rfl) ?_
                have hht := has_tab _ w.heap.size T1 500 tx r.o r.m _ ((St.refl HG2.out).drew).gl (HT2.out.below (Below.refl _ _).drew)
                rw [HHAS.out] at hht
                refine hht.mono ?_
                rintro e wq ⟨rfl, hs⟩
                have HSQ := Lib.hid ((St.refl HG2.out).drew.to hs)
                refine ⟨_, rfl, ?_⟩
                obtain ⟨y0, y1, y2, y3, y4, y5, y6, y7, y8⟩ := (HW2.out.below HSQ.out.b).elem HR.out
                rw [HGB.out] at y7
                rw [HSB.out] at y8
                clear hs hht
                refine hK.out _ _ ⟨y0, y1, y2, y3, y4, y5, y6, y7, y8⟩ (fun hHeld => ?_)
                clear hK K
                refine Go.Proofs.YtogcjflneedcfaaDoorW.PrintLast.norm_ (a' := ?_) ?_ ?_
                rotate_left
                · show Act.put _ (some 136) _ = _
                  simp only [Act.put, List.setIfInBounds_toArray, List.set_cons_zero, List.set_cons_succ, Go.Proofs.YtogcjflneedcfaaDoorW.PrintLast.i64_w, Go.Proofs.YtogcjflneedcfaaDoorW.PrintLast.i32_w]
                  rfl
                refine Go.Proofs.YtogcjflneedcfaaDoorW.PrintLast.pure_ (i := 36) (N := some 137) (v := ?_) (a' := ?_) #[true, true, true, true, true, true, true, true, true, true, true, true, true, true, true, true, true, true, true, true, true, true, true, true, true, true, true, true, true, true, true, true, true, true, true, true, true, false] rfl rfl (by kernel_rfl) (fun _ _ _ h => h) (Or.inl ⟨by rfl, ?_⟩) ?_ ?_
                rotate_left
                · intro w'
                  go_simp
                  with_reducible rfl
                rotate_left
                · simp only [Act.put, List.setIfInBounds_toArray, List.set_cons_zero, List.set_cons_succ, Go.Proofs.YtogcjflneedcfaaDoorW.PrintLast.i64_w, Go.Proofs.YtogcjflneedcfaaDoorW.PrintLast.i32_w]
                  rfl
                refine Go.Proofs.YtogcjflneedcfaaDoorW.PrintLast.pure_ (i := 37) (N := some 138) (v := ?_) (a' := ?_) #[true, true, true, true, true, true, true, true, true, true, true, true, true, true, true, true, true, true, true, true, true, true, true, true, true, true, true, true, true, true, true, true, true, true, true, true, true, true] rfl rfl (by kernel_rfl) (fun _ _ _ h => h) (Or.inl ⟨by rfl, ?_⟩) ?_ ?_
                rotate_left
                · intro w'
                  go_simp
                  with_reducible rfl
                rotate_left
                · simp only [Act.put, List.setIfInBounds_toArray, List.set_cons_zero, List.set_cons_succ, Go.Proofs.YtogcjflneedcfaaDoorW.PrintLast.i64_w, Go.Proofs.YtogcjflneedcfaaDoorW.PrintLast.i32_w]
                  rfl
                refine Go.Proofs.YtogcjflneedcfaaDoorW.PrintLast.done_ (by kernel_rfl) ?_
                clear hHeld x0 x1 x2 x3 x4 x5 x6 x7 x8
                clear y0 y1 y2 y3 y4 y5 y6 y7 y8
                go_wp2_with fail
                go_roundw
                case rel => exact ⟨k + 1, by go_num, by omega, HB.out.trans (HSQ.out.b.mono HB.out.size)⟩
                case measure => simp [intOf]; omega
        · have t1 : decide (k < T.length) = false := decide_eq_false hlt
          have t2 : ¬ ((k : Int) < T.length) := by omega
          clear hlt
          go_wp2_with fail
          refine (end_any _ w.heap.size T1 500 tx _ (St.gl ⟨HB.out, HGE.out⟩) (HTE.out.below HB.out) (by omega)).mono ?_
          rintro e wf ⟨wv2, rfl, h1, _, h2, h3⟩
          have HTF := Lib.hid h1
          have HGF := Lib.hid h3
          have HI2 := Lib.hid (HI1.out.end_ tx)
          have HEN := Lib.hid (fun r (h : r ∈ (endT T1 tx).1) => @end_none T1 tx r h)
          generalize (endT T1 tx).1 = T2 at *
          have HBF := Lib.hid (show Below w.heap.size w wf from (HBE.out.trans (HB.out.mono HBE.out.size)).trans (h2.below (Nat.le_trans HBE.out.size HB.out.size) (fun i hi q => by omega)))
          clear h1 h2 h3
          have hTl2 : T2.length ≤ 500 := HI2.out.len
          go_wp2_with fail
          refine (list_in _ w.heap.size T2 500 _ HGF.out HTF.out (by omega)).mono ?_
          rintro e wg ⟨na2, nc2, rfl, hr, hs⟩
          have HNG := Lib.hid hr
          have HBG := Lib.hid (HBF.out.trans (hs.b.mono HBF.out.size))
          clear hr hs
          go_wp2_with fail
          go_loopw [13] (fun i wr => LSi T2.length wg i wr) (fun i _ => T2.length - (intOf i).toNat)
          case atStart => exact ⟨0, rfl, Nat.zero_le _, Below.refl _ _⟩
          case round =>
            clear HB
            obtain ⟨k, rfl, hk, hb⟩ := hrel
            have HB := Lib.hid hb
            clear hb
            by_cases hlt : k < T2.length
            · have t1 : decide (k < T2.length) = true := decide_eq_true hlt
              have t2 : (k : Int) < T2.length := by omega
              obtain ⟨r, hr⟩ : ∃ r, T2[k]? = some r := ⟨T2[k], List.getElem?_eq_getElem hlt⟩
              obtain ⟨g, rfl, hreq⟩ := (HNG.out.below HB.out).get hr
              obtain ⟨x0, _, _, _, _, _, _, _, _⟩ := hreq
              have t3 : (r.tx == tx) = false := by simpa using HEN.out r (List.mem_of_getElem? hr)
              clear hr
              go_wp2_with fail
              go_roundw
              case rel => exact ⟨k + 1, by go_num, by omega, HB.out⟩
              case measure => simp [intOf]; omega
            · have t1 : decide (k < T2.length) = false := decide_eq_false hlt
              have t2 : ¬ ((k : Int) < T2.length) := by omega
              clear hlt
              go_wp2_with fail
              go_ret
              exact ⟨rfl, HBG.out.trans (HB.out.mono HBG.out.size)⟩
end Lk
end Go.Proofs.YtogcjflneedcfaaDoor

namespace Go.Proofs.YtogcjflneedcfaaDoor.locksShort
open Go.ChangeShapes Go.WideShapes Go.ChangeAt Go.RowKit
open Go.ChangeMaps (open_string shut_string)
open Go.Joins Go.Deep
set_option linter.unusedVariables false
set_option linter.unusedSimpArgs false
theorem own : ownKnob Tryd.prog.godebug = none := by kernel_rfl
theorem laidOut : laidOutB Tryd.prog = true := by kernel_rfl
set_option maxRecDepth 100000 in
theorem contract (H : Type) (enc : TypeId × Value → H) (W : World) (base : Nat) (args : Array Value) (ds gs : List (DataW H)) (before : List MemPlace)
    (hval0 : ∀ (j : Nat) t v, Tryd.f4.params[j]? = some t → args[j]? = some v → Value.okWide Tryd.prog W .any base t v)
    (hW : DataW.Whole enc Tryd.prog Tryd.f4.params.toList Rows.locksShortSpec.vars false W args.toList ds gs before) (hL : laidMetH Tryd.prog Rows.locksShortRow.laid W) :
    Calls Tryd.prog 4 args W fun e W' => ∃ v, e = .returned v ∧ Rows.locksShortSpec.post enc Tryd.prog Tryd.f4 false true false false W args v W' := by
  have hval := hval0
  have hW' := hW
  obtain ⟨p, q, hA0, hV, rfl, hfz, hnd⟩ := hW
  have hA : DataW.TrodAll enc Tryd.prog W 0 (fun _ => true) true Tryd.f4.params.toList args.toList ds p := hA0
  rw [Tryd.params4] at hA hval
  obtain ⟨v0, vs0, d0, ds0, p0, q0, hargs, rfl, rfl, h0, r0⟩ := trodAll_cons hA
  obtain ⟨v1, vs1, d1, ds1, p1, q1, rfl, rfl, rfl, h1, r1⟩ := trodAll_cons r0
  obtain ⟨rfl, rfl, rfl⟩ := trodAll_nil r1
  obtain rfl : args = #[v0, v1] := by cases args; simp_all
  obtain ⟨rfl, rfl⟩ := trodVars_none hV
  have k0 := h0
  have lt0 : ∀ x ∈ p0, x.block < W.heap.size := by obtain ⟨m, hm⟩ := k0; exact DataW.trod_lt m _ _ _ hm
  obtain ⟨sa0, sl0, sc0, rfl⟩ := okWide_slice Tryd.underlying22 (hval 0 22 v0 rfl rfl)
  obtain ⟨x0, o0⟩ : ∃ l, Lk.OpsIn W (.slice sa0 sl0 sc0) l := by obtain ⟨m, hm⟩ := k0; exact Lk.ops_in hm
  have rg1 := hval 1 3 v1 rfl rfl
  obtain ⟨a1, rfl, rfl, rfl, w1⟩ := open_int Tryd.underlying3 (hval 1 3 v1 rfl rfl) h1
  have z1 : -9223372036854775808 ≤ a1 ∧ a1 ≤ 9223372036854775807 := by have hz := w1; simp only [Lit.wf, Bool.and_eq_true, decide_eq_true_eq] at hz; exact hz
  clear hA0 hval0
  have G := Md.gl_of hL
  refine (Lk.short_walk _ _ a1 W (Md.gl_of hL) o0).mono fun e W' ⟨he, bel⟩ => ?_
  subst he
  exact ⟨_, rfl, _, _, _, [], _, [], hW', trodAll_mk1 (shut_bool Tryd.underlying4 _), (trodAll_cons_mk (Below.trod laidOut (by kernel_rfl) (of_decide_eq_true (by kernel_rfl)) k0 bel lt0) (trodAll_cons_mk (shut_int Tryd.underlying3 w1) trodAll_mk0)), rfl, bel.frame _, fun h => by cases h⟩

/-- A WORLD FOR THE WITNESS: the settled one, the tables holding what their initialisers lay. -/
noncomputable def fitsBlock : Obj → Obj
  | .cells _ t frozen => .cells #[.bool true, .bool true, .bool true, .bool true, .bool true, .bool true, .bool true, .bool true, .bool true, .bool true, .bool true, .bool true, .bool true, .bool false, .bool true, .bool true, .bool true, .bool false, .bool false, .bool false, .bool false, .bool true, .bool true, .bool false, .bool true, .bool false, .bool true, .bool false, .bool true, .bool true, .bool false, .bool false, .bool false, .bool false, .bool false, .bool true, .bool true, .bool false, .bool false, .bool false, .bool false, .bool false, .bool true, .bool false, .bool false, .bool false, .bool false, .bool false, .bool false] t frozen
  | o => o
noncomputable def covBlock : Obj → Obj
  | .cells _ t frozen => .cells #[.int .u64 1, .int .u64 3, .int .u64 7, .int .u64 11, .int .u64 31, .int .u64 43, .int .u64 127] t frozen
  | o => o
noncomputable def laidWorld (os : Os) : World :=
  { World.holding Tryd.prog os ⟨#[], #[], []⟩ with heap := ((World.holding Tryd.prog os ⟨#[], #[], []⟩).heap.modify 1 fitsBlock).modify 0 covBlock }
theorem laid_met (os : Os) : laidMet Tryd.prog Rows.locksShortRow.laid ((laidWorld os).forCall (fun _ _ => 0) ⟨#[], #[.slice none 0 0, .int .i64 0], []⟩).memory :=
  laidMet_of_run' 8 (by kernel_rfl) (by kernel_rfl)
theorem reads (os : Os) {H : Type} (enc : TypeId × Value → H) : ∃ places, DataW.whole enc Tryd.prog ((laidWorld os).forCall (fun _ _ => 0) ⟨#[], #[.slice none 0 0, .int .i64 0], []⟩).memory Tryd.f4.params.toList Rows.locksShortSpec.vars false (#[.slice none 0 0, .int .i64 0] : Array Value).toList 8 = some ([.nil, .lit (.int .i64 0)], [], places) :=
  ⟨[], by kernel_rfl⟩
set_option maxRecDepth 100000 in
theorem lifted (os : Os) (started : os.Started) (H : Type) (enc : TypeId × Value → H) (F : Stop.Interp) :
    ReturnsInHanded {} Tryd.checked os 4 .any ((OpenSpec.ofChange Rows.locksShortSpec).preRow enc Tryd.prog Tryd.f4 Rows.locksShortRow.domain false Rows.locksShortRow.laid) (((OpenSpec.ofChange Rows.locksShortSpec).at F).post enc Tryd.prog Tryd.f4 false true false false) := by
  obtain ⟨places, hx⟩ := reads os enc
  refine returnsInHanded_of_row (C := Tryd.checked) (s := OpenSpec.ofChange Rows.locksShortSpec) own started (by kernel_rfl) Tryd.func4
    (witness_row_at (enc := enc) (C := Tryd.checked) false (laidWorld os) #[.slice none 0 0, .int .i64 0] rfl (by kernel_rfl) (by kernel_rfl) (by kernel_rfl)
      (OpenSpec.preRow_of_cond 8 hx (by kernel_rfl) (fun k hk => by cases hk) (by kernel_rfl) (laid_met os))) ?_
  intro W base args ds gs before hval hW _ _ _ hL _ _
  exact contract H enc W base args ds gs before hval hW hL
theorem said : Rows.LocksShortSaid :=
  OpenClaim.holds_of_cond 4 Tryd.f4 rfl rfl rfl rfl rfl rfl rfl ⟨rfl, rfl, rfl, rfl, rfl⟩ rfl rfl rfl rfl rfl (by kernel_rfl) Tryd.func4 (by kernel_rfl)
    (of_decide_eq_true (by kernel_rfl)) (by unfold Func.isWrapper; first | (rw [if_pos (by decide +kernel)]; kernel_rfl) | (rw [if_neg (by decide +kernel)]; exact ⟨rfl, rfl⟩))
    (fun os started H enc _ F => by rw [OpenClaim.pre_eq_preRow]; exact lifted os started H enc F)
theorem plain (f : FuncId) (fn : Func) (hf : Tryd.pinned.checked.prog.funcNamed "stile/stilelaw11.LocksShort" = some f) (hfn : Tryd.pinned.checked.prog.funcs[f]? = some fn) :
    false = Tryd.pinned.checked.prog.looks [] ∧ ∀ (j : Nat) t, fn.params[j]? = some t → Tryd.pinned.checked.prog.wantsStandIn t = false := by
  obtain rfl : f = 4 := Option.some.inj ((show Tryd.prog.funcNamed "stile/stilelaw11.LocksShort" = some 4 by kernel_rfl).symm.trans hf) |>.symm
  obtain rfl : fn = Tryd.f4 := (Option.some.inj (Tryd.func4.symm.trans hfn)).symm
  refine ⟨by kernel_rfl, fun j t ht => ?_⟩
  rw [Tryd.params4] at ht
  have hm : t ∈ [22, 3] := by simpa using Array.mem_of_getElem? ht
  have hall : ([22, 3].all fun u => !Tryd.prog.wantsStandIn u) = true := by kernel_rfl
  exact (show Tryd.prog.wantsStandIn t = false by simpa using List.all_eq_true.1 hall t hm)
end Go.Proofs.YtogcjflneedcfaaDoor.locksShort
namespace Go.Proofs.YtogcjflneedcfaaDoor
/-- THE CARD: the row, its two tables tied to the program's text. -/
theorem locksShort_card : Rows.LocksShortCardSaid :=
  Claim7.holds_tied_plain_at .later [] _ _ _ _ locksShort.said (fun _ h => by cases h) (by kernel_rfl) (fun _ h => by cases h) locksShort_row_tie rfl ⟨rfl, rfl⟩ (by kernel_rfl) rfl locksShort.plain (by kernel_rfl)
#print axioms locksShort_card
end Go.Proofs.YtogcjflneedcfaaDoor
