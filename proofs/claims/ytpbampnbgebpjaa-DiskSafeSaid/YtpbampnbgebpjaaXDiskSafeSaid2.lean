/- What is safe is kept; it is proved for every input. -/
import Derived.Test.YtpbampnbgebpjaaXDiskSafeSaid1
import Derived.Test.YtpbampnbgebpjaaRows
import Derived.WalkKit
import Derived.ProofKit
import Derived.OpenShut
import Derived.ShutString
import Derived.ChangeOld
import Derived.Below
import Derived.SizedLaws
import Derived.ChangeSlices
namespace Go.Proofs.Ytpbampnbgebpjaa
open Go.RowKit Go.Proofs.YtpbampnbgebpjaaW.PrintWords Go.Proofs.YtpbampnbgebpjaaW.PrintLast
set_option linter.unusedVariables false
set_option linter.unusedSimpArgs false
namespace Dk

def LA (w : World) (D len : Nat) (i : Value) (wr : World) : Prop := ∃ (k : Nat) (d : Dsk), i = .int .i64 k ∧ k ≤ len ∧ k ≤ 100 ∧ IsDk w.heap.size wr D d ∧ Sc 8 d k ∧ Chg w.heap.size DK w wr
def LB (w : World) (D W : Nat) (now : Int → List Int) (d : Dsk) (i : Value) (wr : World) : Prop := ∃ j : Nat, i = .int .i64 j ∧ j ≤ 8 ∧ IsDk w.heap.size wr D d ∧ WasAt wr W j now ∧ Below w.heap.size w wr
theorem info_sl : (Try.prog.info? 30).map (fun i => (i.zero, i.size, i.bytes)) = some (some (.slice none 0 0), 1, 24) := by kernel_rfl
theorem MayAt.grown {base n q : Nat} {w w5 : World} {B : Nat} {ex : List (Int × List Int)} {v : Value} {vs : List Value} (h : MayAt base w B ex) (hown : w.ownsRow base 30 1 v n vs) (hg : w.grownBy w5 v.ownBlock) : w5.frozen? ⟨B, q, none⟩ = false ∧ w5.cell? ⟨B, q, none⟩ = w.cell? ⟨B, q, none⟩ := by
  obtain ⟨cs, vs', h1, _⟩ := h
  have h2 : w5.heap[B]? = some (.cells cs 37 (0, 0)) := (hg.block B (lt_of_heap h1) (fun q => by obtain ⟨cur, hc⟩ := (own_kind hown q.symm).2; rw [h1] at hc; cases hc)).trans h1
  exact ⟨free_of h2, by simp [World.cell?, h1, h2]⟩
theorem put_frame {base n q : Nat} {w w5 : World} {B : Nat} {ex : List (Int × List Int)} {v u : Value} {vs : List Value} (h : MayAt base w B ex) (hown : w.ownsRow base 30 1 v n vs) (hg : w.grownBy w5 v.ownBlock) :
    ∀ (g : Nat) (o : Obj), w.heap[g]? = some o → (∀ cur, o ≠ .cells cur 30 (0, 0)) → (∀ cur, o ≠ .cells cur 37 (0, 0)) → (w5.setCell ⟨B, q, none⟩ u).heap[g]? = some o := by
  intro g o hh h1 h2
  obtain ⟨cs, vs', c1, _⟩ := h
  rw [set_ne (by rintro rfl; rw [c1] at hh; cases hh; exact h2 _ rfl)]
  exact (hg.block g (lt_of_heap hh) (fun q => by obtain ⟨cur, hc⟩ := (own_kind hown q.symm).2; rw [hc] at hh; cases hh; exact h1 _ rfl)).trans hh
theorem WasAt.move {w w' : World} {W j : Nat} {now : Int → List Int} (h : WasAt w W j now) (hk : ∀ (g : Nat) (o : Obj), w.heap[g]? = some o → (∀ cur, o ≠ .cells cur 30 (0, 0)) → (∀ cur, o ≠ .cells cur 37 (0, 0)) → w'.heap[g]? = some o) : WasAt w' W j now := by
  obtain ⟨cs, h1, h2, h3⟩ := h
  exact ⟨cs, hk _ _ h1 (fun cur e => by cases e) (fun cur e => by cases e), h2, fun q hq => by
    obtain ⟨v, e1, e2⟩ := h3 q hq
    exact ⟨v, e1, e2.move fun g cur hh => hk g _ hh (fun cur e => by cases e) (fun cur e => by cases e)⟩⟩
def LC (w : World) (D W B len : Nat) (now : Int → List Int) (S0 : List Int) (L0 : List (Int × List Int)) (i : Value) (wr : World) : Prop := ∃ (k : Nat) (d : Dsk) (ex : List (Int × List Int)), i = .int .i64 k ∧ k ≤ len ∧ k ≤ 100 ∧ ex.length ≤ k ∧ IsDk w.heap.size wr D d ∧ Sc 8 d (101 + k) ∧ d.syncs = S0 ∧ d.log = L0 ++ ex ∧ WasAt wr W 8 now ∧ MayAt w.heap.size wr B ex ∧ Below w.heap.size w wr
theorem pend_left (base : Nat) (w : World) (C : Nat) (d : Dsk) (s n : Nat) (keep : List Bool) (h : IsDk base w C (leftD d s n keep)) : Calls Try.prog 14 #[.pointer (some ⟨C, 0, none⟩)] w fun e w' => e = .returned (.int .i64 0) ∧ ∃ q, w' = w.drewN q :=
  pending_any base w C _ h (left_fit _ _ _ _)
def LD (w : World) (C W B : Nat) (nl now : Int → List Int) (ex : List (Int × List Int)) (i : Value) (wr : World) : Prop := ∃ j : Nat, i = .int .i64 j ∧ j ≤ 8 ∧ Has8 w.heap.size wr C nl ∧ WasAt wr W 8 now ∧ MayAt w.heap.size wr B ex ∧ Below w.heap.size w wr
def LE (r1 : World) (n : Nat) (t0 : Int) (o i : Value) (wr : World) : Prop := ∃ (k : Nat) (x : Bool), o = .bool x ∧ i = .int .i64 k ∧ k ≤ n ∧ r1 = wr ∧ (t0 < (k : Int) → x = true)
/-- where the sector's bytes are found: at the start, or at an element -/
theorem hit_at {w : World} {nlj was : List Int} {j : Nat} {ex : List (Int × List Int)} {vs : List Value} {y : Bool} (h : nlj = was ∨ ∃ p ∈ ex, p.1 = (j : Int) ∧ nlj = p.2) (hv : ∀ p ∈ ex, p.1 = (j : Int) → ∃ u ∈ vs, Own8 w u p.2) (hy : nlj = was → y = true) :
    ∃ t0 : Int, t0 < vs.length ∧ (t0 < ((0 : Nat) : Int) → y = true) ∧ ∀ (k : Nat) (u : Value), (k : Int) = t0 → vs[k]? = some u → Own8 w u nlj := by
  rcases h with h | ⟨p, hp, hpj, h⟩
  · exact ⟨-1, by omega, fun _ => hy h, fun k u hk => by omega⟩
  · obtain ⟨u, hu, ho⟩ := hv p hp hpj
    obtain ⟨t, ht, hut⟩ := List.mem_iff_getElem.1 hu
    refine ⟨t, by omega, fun q => by omega, fun k u' hk hu' => ?_⟩
    have e : k = t := by omega
    subst e
    rw [List.getElem?_eq_getElem ht, hut] at hu'
    cases hu'
    rw [h]
    exact ho
theorem elem_at {w : World} {base : Nat} {ma : Option Addr} {mc k : Nat} {vs : List Value} (h : w.ownsRow base 30 1 (.slice ma vs.length mc) vs.length vs) (hk : k < vs.length) (hv : ∀ u ∈ vs, ∃ l, Own8 w u l) :
    ∃ ua uc ad, ma = some ad ∧ w.cell? (ad.add k) = some (.slice ua 128 uc) ∧ (vs[k]? = some (.slice ua 128 uc) ∧ ∃ l, Own8 w (.slice ua 128 uc) l) := by
  rcases h.2 with ⟨_, q⟩ | ⟨g, cap, cur, q, _⟩
  · omega
  · cases q
    obtain ⟨l, b, ho⟩ := hv vs[k] (List.getElem_mem hk)
    obtain ⟨ua, uc, e⟩ := own_slice ho
    have hc := World.ownsRow.cells h (g := g) rfl k vs[k] (List.getElem?_eq_getElem hk)
    rw [e] at hc ho
    exact ⟨ua, uc, _, rfl, hc, by rw [List.getElem?_eq_getElem hk, e], l, b, ho⟩
theorem pick_at {w : World} {nl : List Int} {k : Nat} {t0 : Int} {vs : List Value} {u : Value} (hk : k < vs.length) (h : vs[k]? = some u ∧ ∃ l, Own8 w u l) (h3 : ∀ (k : Nat) (u : Value), (k : Int) = t0 → vs[k]? = some u → Own8 w u nl) : ∃ l, Own8 w u l ∧ ((k : Int) = t0 → nl = l) := by
  by_cases e : (k : Int) = t0
  · exact ⟨nl, h3 k u e h.1, fun _ => rfl⟩
  · obtain ⟨l, hl⟩ := h.2
    exact ⟨l, hl, fun q => absurd q e⟩
def z8 : Array Value := #[.slice none 0 0, .slice none 0 0, .slice none 0 0, .slice none 0 0, .slice none 0 0, .slice none 0 0, .slice none 0 0, .slice none 0 0]
theorem was_new (w : World) (now : Int → List Int) : WasAt (w.alloc (.cells z8 33)) w.heap.size 0 now := ⟨z8, World.alloc_heap_new _ _, rfl, fun q hq => absurd hq (by omega)⟩
theorem may_new (base : Nat) (w : World) : MayAt base (w.alloc (.cells z8 37)) w.heap.size [] := by
  have hz : ∀ (q : Nat) (v : Value), z8[q]? = some v → v = Value.slice none 0 0 := by
    intro q v h
    have hm := Array.mem_of_getElem? h
    simpa [z8] using hm
  refine ⟨z8, fun _ => [], World.alloc_heap_new _ _, rfl, fun q hq => ⟨Value.slice none 0 0, ?_, Nat.le_refl _, World.ownsRow_nil _ _ _ _, by simp, by simp⟩, fun q q' v v' g _ h1 h2 hb => ?_⟩
  · rw [Array.getElem?_eq_getElem (show q < z8.size from hq)]
    exact congrArg some (hz q _ (Array.getElem?_eq_getElem (show q < z8.size from hq)))
  · rw [hz q v h1] at hb
    cases hb
theorem WasAt.at_ {w : World} {W j : Nat} {now : Int → List Int} (h : WasAt w W j now) (hj : j < 8) : w.frozen? ⟨W, j, none⟩ = false ∧ ∃ x, w.cell? ⟨W, j, none⟩ = some x := by
  obtain ⟨cs, h1, h2, h3⟩ := h
  exact ⟨free_of h1, cs[j]'(by omega), cell_of h1 (Array.getElem?_eq_getElem (by omega))⟩
set_option maxHeartbeats 4000000 in
set_option maxRecDepth 100000 in
theorem safe_walk (v0 v1 v2 : Value) (w : World) (first later : List Op5) (keep : List Bool) (h0 : OpsIn w v0 first) (h1 : OpsIn w v1 later) (h2 : BoolsIn w v2 keep) :
    Calls Try.prog 3 #[v0, v1, v2] w fun e w' => e = .returned (.bool true) ∧ Below w.heap.size w w' := by
  obtain ⟨sa, sc, rfl, hsl, hops⟩ := h0
  obtain ⟨ta, tc, rfl, htl, hopt⟩ := h1
  have HOPS := Lib.hid hops
  have HOPT := Lib.hid hopt
  have HK2 := Lib.hid h2
  have HTL := Lib.hid htl
  clear hops hopt h2 htl
  go_enter Try.func3, Try.ntmps3
  go_wp2_with fail
  refine (new_dk w.heap.size 8 _ (Nat.le_refl _) (by decide) (by decide)).mono ?_
  rintro e w1 ⟨D, rfl, hi1, hb1⟩
  have HI1 := Lib.hid hi1
  have HB1 := Lib.hid hb1
  clear hi1 hb1
  go_wp2_with fail
  refine (alive_any _).mono ?_
  rintro e w2 ⟨rfl, hb2⟩
  have HI2 := Lib.hid (HI1.out.below hb2)
  have HB2 := Lib.hid (bel HB1.out hb2)
  clear hb2
  go_wp2_with fail
  go_loopw [9] (fun i wr => LA w D first.length i wr) (fun i _ => 100 - (intOf i).toNat)
  case atStart => exact ⟨0, _, rfl, Nat.zero_le _, Nat.zero_le _, HI2.out, Sc.new 8, Chg.of_below HB2.out (Nat.le_refl _)⟩
  case round =>
    obtain ⟨k, d, rfl, hk1, hk2, hi, hs, hc⟩ := hrel
    have HI := Lib.hid hi
    have HS := Lib.hid hs
    have HC := Lib.hid hc
    clear hi hs hc
    by_cases hlt : k < first.length ∧ k < 100
    · obtain ⟨g1, g2⟩ := hlt
      have t1 : decide (k < first.length) = true := decide_eq_true g1
      have t2 : decide ((k : Int) < 100) = true := decide_eq_true (by omega)
      have t3 : (k : Int) < 100 := by omega
      obtain ⟨ad, rfl, hop⟩ := HOPS.out k g1
      generalize hx : first[k] = x at hop
      clear hx
      have hb := HC.out.below
      obtain ⟨q0, q1, q2, q3, q4, q5⟩ := hop
      have o1 := cell_up q1 hb
      have o2 := cell_up q2 hb
      have HBY := Lib.hid (q4.chg hb)
      clear q0 q1 q2 q3 q4 q5 hb
      have HWR := Lib.hid (show ∀ W, Below wr.heap.size wr W → Calls Try.prog 9 #[.pointer (some ⟨D, 0, none⟩), .int .i64 x.i, x.bv] W fun e w' => ∃ (m : Int) (d' : Dsk), e = .returned (.int .i64 m) ∧ IsDk w.heap.size w' D d' ∧ Sc 8 d' (k + 1) ∧ Chg w.heap.size DK wr w' from fun W hW =>
        (write_op w.heap.size W D d 8 k x.i x.bv x.b (by decide) (HI.out.below hW) HS.out (by omega) (Nat.le_trans HC.out.size hW.size) (HBY.out.chg hW)).mono fun e w' ⟨m, d', e1, e2, e3, e4⟩ => ⟨m, d', e1, e2, e3, (Chg.of_below hW HC.out.size).trans e4⟩)
      go_wp2_with fail
      refine Go.Proofs.YtpbampnbgebpjaaW.PrintLast.start_ (n := 12) (S := fun v => v.cell? ⟨(ad.add (k * 4)).block, (ad.add (k * 4)).off + 1, none⟩ = some (.int .i64 x.i) ∧ v.cell? ⟨(ad.add (k * 4)).block, (ad.add (k * 4)).off + 2, none⟩ = some x.bv) (ds := [11]) #[false, false, false, false, false, false, false, false, false, false, false, false] (by kernel_rfl) rfl rfl ⟨o1, o2⟩ (fun hHeld => ?_)
      refine Go.Proofs.YtpbampnbgebpjaaW.PrintLast.pure_ (i := 0) (N := some 47) (v := ?_) (a' := ?_) #[true, false, false, false, false, false, false, false, false, false, false, false] rfl rfl (by kernel_rfl) (fun _ _ _ h => h) (Or.inl ⟨by rfl, ?_⟩) ?_ ?_
      rotate_left
      · intro w'
        go_simp
        with_reducible rfl
      rotate_left
      · simp only [Act.put, List.setIfInBounds_toArray, List.set_cons_zero, List.set_cons_succ, Go.Proofs.YtpbampnbgebpjaaW.PrintLast.i64_w, Go.Proofs.YtpbampnbgebpjaaW.PrintLast.i32_w]
        rfl
      refine Go.Proofs.YtpbampnbgebpjaaW.PrintLast.pure_ (i := 1) (N := some 48) (v := ?_) (a' := ?_) #[true, true, false, false, false, false, false, false, false, false, false, false] rfl rfl (by kernel_rfl) (fun _ _ _ h => h) (Or.inl ⟨by rfl, ?_⟩) ?_ ?_
      rotate_left
      · intro w'
        go_simp
        with_reducible rfl
      rotate_left
      · simp only [Act.put, List.setIfInBounds_toArray, List.set_cons_zero, List.set_cons_succ, Go.Proofs.YtpbampnbgebpjaaW.PrintLast.i64_w, Go.Proofs.YtpbampnbgebpjaaW.PrintLast.i32_w]
        rfl
      refine Go.Proofs.YtpbampnbgebpjaaW.PrintLast.pure_ (i := 2) (N := some 49) (v := ?_) (a' := ?_) #[true, true, true, false, false, false, false, false, false, false, false, false] rfl rfl (by kernel_rfl) (fun _ _ _ h => h) (Or.inl ⟨by rfl, ?_⟩) ?_ ?_
      rotate_left
      · intro w'
        go_simp
        with_reducible rfl
      rotate_left
      · simp only [Act.put, List.setIfInBounds_toArray, List.set_cons_zero, List.set_cons_succ, Go.Proofs.YtpbampnbgebpjaaW.PrintLast.i64_w, Go.Proofs.YtpbampnbgebpjaaW.PrintLast.i32_w]
        rfl
      refine Go.Proofs.YtpbampnbgebpjaaW.PrintLast.pure_ (i := 3) (N := some 50) (v := ?_) (a' := ?_) #[true, true, true, true, false, false, false, false, false, false, false, false] rfl rfl (by kernel_rfl) (fun _ _ _ h => h) (Or.inl ⟨by rfl, ?_⟩) ?_ ?_
      rotate_left
      · intro w'
        go_simp
        with_reducible rfl
      rotate_left
      · simp only [Act.put, List.setIfInBounds_toArray, List.set_cons_zero, List.set_cons_succ, Go.Proofs.YtpbampnbgebpjaaW.PrintLast.i64_w, Go.Proofs.YtpbampnbgebpjaaW.PrintLast.i32_w]
        rfl
      refine Go.Proofs.YtpbampnbgebpjaaW.PrintLast.pure_ (i := 4) (N := some 51) (v := ?_) (a' := ?_) #[true, true, true, true, true, false, false, false, false, false, false, false] rfl rfl (by kernel_rfl) (fun _ _ _ h => h) (Or.inl ⟨by rfl, ?_⟩) ?_ ?_
      rotate_left
      · intro w'
        go_simp
        with_reducible rfl
      rotate_left
      · simp only [Act.put, List.setIfInBounds_toArray, List.set_cons_zero, List.set_cons_succ, Go.Proofs.YtpbampnbgebpjaaW.PrintLast.i64_w, Go.Proofs.YtpbampnbgebpjaaW.PrintLast.i32_w]
        rfl
      refine Go.Proofs.YtpbampnbgebpjaaW.PrintLast.take_ (i := 5) (N := some 52) (v := ?_) (a' := ?_) #[true, true, true, true, true, true, false, false, false, false, false, false] rfl rfl (by kernel_rfl) (fun _ _ _ h => h) (Or.inl ⟨by rfl, ?_⟩) hHeld ?_ ?_
      rotate_left
      · rintro w' ⟨s0, s1⟩
        go_simp
        with_reducible rfl
      rotate_left
      · simp only [Act.put, List.setIfInBounds_toArray, List.set_cons_zero, List.set_cons_succ, Go.Proofs.YtpbampnbgebpjaaW.PrintLast.i64_w, Go.Proofs.YtpbampnbgebpjaaW.PrintLast.i32_w]
        rfl
      refine Go.Proofs.YtpbampnbgebpjaaW.PrintLast.pure_ (i := 6) (N := some 53) (v := ?_) (a' := ?_) #[true, true, true, true, true, true, true, false, false, false, false, false] rfl rfl (by kernel_rfl) (fun _ _ _ h => h) (Or.inl ⟨by rfl, ?_⟩) ?_ ?_
      rotate_left
      · intro w'
        go_simp
        with_reducible rfl
      rotate_left
      · simp only [Act.put, List.setIfInBounds_toArray, List.set_cons_zero, List.set_cons_succ, Go.Proofs.YtpbampnbgebpjaaW.PrintLast.i64_w, Go.Proofs.YtpbampnbgebpjaaW.PrintLast.i32_w]
        rfl
      refine Go.Proofs.YtpbampnbgebpjaaW.PrintLast.pure_ (i := 7) (N := some 54) (v := ?_) (a' := ?_) #[true, true, true, true, true, true, true, true, false, false, false, false] rfl rfl (by kernel_rfl) (fun _ _ _ h => h) (Or.inl ⟨by rfl, ?_⟩) ?_ ?_
      rotate_left
      · intro w'
        go_simp
        with_reducible rfl
      rotate_left
      · simp only [Act.put, List.setIfInBounds_toArray, List.set_cons_zero, List.set_cons_succ, Go.Proofs.YtpbampnbgebpjaaW.PrintLast.i64_w, Go.Proofs.YtpbampnbgebpjaaW.PrintLast.i32_w]
        rfl
      refine Go.Proofs.YtpbampnbgebpjaaW.PrintLast.pure_ (i := 8) (N := some 55) (v := ?_) (a' := ?_) #[true, true, true, true, true, true, true, true, true, false, false, false] rfl rfl (by kernel_rfl) (fun _ _ _ h => h) (Or.inl ⟨by rfl, ?_⟩) ?_ ?_
      rotate_left
      · intro w'
        go_simp
        with_reducible rfl
      rotate_left
      · simp only [Act.put, List.setIfInBounds_toArray, List.set_cons_zero, List.set_cons_succ, Go.Proofs.YtpbampnbgebpjaaW.PrintLast.i64_w, Go.Proofs.YtpbampnbgebpjaaW.PrintLast.i32_w]
        rfl
      refine Go.Proofs.YtpbampnbgebpjaaW.PrintLast.pure_ (i := 9) (N := some 56) (v := ?_) (a' := ?_) #[true, true, true, true, true, true, true, true, true, true, false, false] rfl rfl (by kernel_rfl) (fun _ _ _ h => h) (Or.inl ⟨by rfl, ?_⟩) ?_ ?_
      rotate_left
      · intro w'
        go_simp
        with_reducible rfl
      rotate_left
      · simp only [Act.put, List.setIfInBounds_toArray, List.set_cons_zero, List.set_cons_succ, Go.Proofs.YtpbampnbgebpjaaW.PrintLast.i64_w, Go.Proofs.YtpbampnbgebpjaaW.PrintLast.i32_w]
        rfl
      refine Go.Proofs.YtpbampnbgebpjaaW.PrintLast.take_ (i := 10) (N := some 57) (v := ?_) (a' := ?_) #[true, true, true, true, true, true, true, true, true, true, true, false] rfl rfl (by kernel_rfl) (fun _ _ _ h => h) (Or.inl ⟨by rfl, ?_⟩) hHeld ?_ ?_
      rotate_left
      · rintro w' ⟨s0, s1⟩
        go_simp
        with_reducible rfl
      rotate_left
      · simp only [Act.put, List.setIfInBounds_toArray, List.set_cons_zero, List.set_cons_succ, Go.Proofs.YtpbampnbgebpjaaW.PrintLast.i64_w, Go.Proofs.YtpbampnbgebpjaaW.PrintLast.i32_w]
        rfl
      refine Go.Proofs.YtpbampnbgebpjaaW.PrintLast.last_ (i := 11) (N := some 58) #[true, true, true, true, true, true, true, true, true, true, true, true] rfl rfl (by kernel_rfl) (by decide) (fun K hK => ?_)
      refine Go.Proofs.YtpbampnbgebpjaaW.PrintLast.goes_ Try.func9 (by kernel_rfl) rfl #[.pointer (some ⟨D, 0, none⟩), .int .i64 x.i, x.bv] (by rfl) rfl rfl (by (try simp only [List.map_toArray, List.map_cons, List.map_nil]); first | done | rfl) ?_
      refine (HWR.out _ (Below.refl _ _).drew).mono ?_
      rintro e w2 ⟨m, d2, rfl, hi2, hs2, hc2⟩
      have HI2 := Lib.hid hi2
      have HS2 := Lib.hid hs2
      have HC2 := Lib.hid hc2
      clear hi2 hs2 hc2
      refine ⟨_, rfl, ?_⟩
      refine hK.out _ _ ?_
      clear hK K
      refine Go.Proofs.YtpbampnbgebpjaaW.PrintLast.norm_ (a' := ?_) ?_ ?_
      rotate_left
      · show Act.put _ (some 58) _ = _
        simp only [Act.put, List.setIfInBounds_toArray, List.set_cons_zero, List.set_cons_succ, Go.Proofs.YtpbampnbgebpjaaW.PrintLast.i64_w, Go.Proofs.YtpbampnbgebpjaaW.PrintLast.i32_w]
        rfl
      refine Go.Proofs.YtpbampnbgebpjaaW.PrintLast.done_ (by kernel_rfl) ?_
      go_wp2_with fail
      go_roundw
      case rel => exact ⟨k + 1, d2, by go_num, by omega, by omega, HI2.out, HS2.out, HC.out.trans HC2.out⟩
      case measure => simp [intOf]; omega
    · have hx : (decide (k < first.length) = false) ∨ (decide (k < first.length) = true ∧ decide ((k : Int) < 100) = false) := by
        by_cases g1 : k < first.length
        · exact .inr ⟨decide_eq_true g1, decide_eq_false (by omega)⟩
        · exact .inl (decide_eq_false g1)
      have hk100 : k ≤ 100 := hk2
      clear hlt hk1 hk2 HOPS hsl
      have HR : Hid (True) := Lib.hid trivial
      rcases hx with t1 | ⟨t1, t2⟩
      all_goals
        go_wp2_with fail
        clear t1
        refine (sync_any w.heap.size _ D d HI.out (by have := HS.out.syncs; omega) HC.out.size).mono ?_
        rintro e w3 ⟨rfl, hi3, hc3⟩
        have HI3 := Lib.hid hi3
        have HC3 := Lib.hid (HC.out.trans hc3)
        have hsz3 : w.heap.size ≤ w3.heap.size := HC3.out.size
        clear hi3 hc3 HI HC
        go_wp2_with fail
        have HI4 := Lib.hid (HI3.out.below ((Below.refl _ _).alloc (Nat.le_refl _) (.cells z8 33)))
        have HB4 := Lib.hid (HC3.out.below.alloc hsz3 (.cells z8 33))
        have HW4 := Lib.hid (was_new w3 d.now)
        have HSD := Lib.hid HS.out.sync
        have HSL := Lib.hid (show ({ d with syncs := d.syncs ++ [(d.log.length : Int)] } : Dsk).syncs = d.syncs ++ [(d.log.length : Int)] from rfl)
        have HLL := Lib.hid (show ({ d with syncs := d.syncs ++ [(d.log.length : Int)] } : Dsk).log = d.log from rfl)
        have HNN := Lib.hid (show ({ d with syncs := d.syncs ++ [(d.log.length : Int)] } : Dsk).now = d.now from rfl)
        clear HI3
        generalize ({ d with syncs := d.syncs ++ [(d.log.length : Int)] } : Dsk) = d1 at HI4 HSD HSL HLL HNN
        generalize hWB : w3.heap.size = W at hsz3 HW4
        go_loopw [11] (fun i wr => LB w D W d.now d1 i wr) (fun i _ => 9 - (intOf i).toNat)
        case atStart => exact ⟨0, rfl, Nat.zero_le _, HI4.out, HW4.out, HB4.out⟩
        case round =>
          obtain ⟨j, rfl, hj, hh1, hh2, hbb⟩ := hrel
          have G1 := Lib.hid hh1
          have G2 := Lib.hid hh2
          have GB := Lib.hid hbb
          clear hh1 hh2 hbb HI4 HB4 HW4
          by_cases hjl : j < 8
          · have t1 : decide ((j : Int) < 8) = true := decide_eq_true (by omega)
            go_wp2_with fail
            refine (read_has w.heap.size _ D j d.now ⟨d1, G1.out, HSD.out.N, HNN.out, HS.out.now_len⟩ hjl).mono ?_
            rintro e r1 ⟨b1, rfl, ho1, hb1⟩
            obtain ⟨ba, bc, rfl⟩ := own_slice ho1
            have O1 := Lib.hid (show Own8 r1 _ (d.now j) from ⟨_, ho1⟩)
            have B1 := Lib.hid hb1
            have BB := Lib.hid (bel GB.out hb1)
            have W1 := Lib.hid (G2.out.keep (Kps.below hb1))
            have D1 := Lib.hid (G1.out.below hb1)
            clear ho1 hb1
            obtain ⟨fz, x0, cl⟩ := W1.out.at_ hjl
            go_wp2_with fail
            have HX := Lib.hid (W1.out.set hjl O1.out)
            have HXD := Lib.hid (D1.out.keepR (w' := r1.setCell ⟨W, j, none⟩ (.slice ba 128 bc)) (fun g o hg hr => (set_ne (by rintro rfl; obtain ⟨cs, q1, _⟩ := W1.out; rw [q1] at hg; cases hg; cases hr)).trans hg))
            have HXB := Lib.hid (BB.out.setCell (p := ⟨W, j, none⟩) hsz3 (.slice ba 128 bc))
            go_roundw
            case rel => exact ⟨j + 1, by go_num, by omega, HXD.out, HX.out, HXB.out⟩
            case measure => simp [intOf]; omega
          · have t1 : decide ((j : Int) < 8) = false := decide_eq_false (by omega)
            have ej : j = 8 := by omega
            subst ej
            go_wp2_with fail
            have HI5 := Lib.hid (G1.out.below ((Below.refl _ _).alloc (Nat.le_refl _) (.cells z8 37)))
            have HB5 := Lib.hid (GB.out.alloc GB.out.size (.cells z8 37))
            have HW5 := Lib.hid (G2.out.keep (Kps.below ((Below.refl _ _).alloc (Nat.le_refl _) (.cells z8 37))))
            have HM5 := Lib.hid (may_new w.heap.size wr)
            have hszB : w.heap.size ≤ wr.heap.size := GB.out.size
            generalize hBB : wr.heap.size = B at HM5 hszB
            have HSE := Lib.hid (HSD.out.up (c' := 101 + 0) (by omega))
            have HS0 := Lib.hid (HS.out.up hk100)
            clear G1 G2 GB HSD HS hjl hj t1 hk100
            go_loopw [15] (fun i wr => LC w D W B later.length d.now (d.syncs ++ [(d.log.length : Int)]) d.log i wr) (fun i _ => 101 - (intOf i).toNat)
            case atStart => exact ⟨0, d1, [], rfl, Nat.zero_le _, Nat.zero_le _, Nat.le_refl _, HI5.out, HSE.out, HSL.out, by rw [HLL.out, List.append_nil], HW5.out, HM5.out, HB5.out⟩
            case round =>
              obtain ⟨k, dd, ex, rfl, hk1, hk2, hex, hh1, hh2, hh3, hh4, hh5, hh6, hbb⟩ := hrel
              have HI := Lib.hid hh1
              have HSd := Lib.hid hh2
              have HSy := Lib.hid hh3
              have HLg := Lib.hid hh4
              have HWs := Lib.hid hh5
              have HMy := Lib.hid hh6
              have GB := Lib.hid hbb
              clear hh1 hh2 hh3 hh4 hh5 hh6 hbb HI5 HB5 HW5 HM5 HSE
              by_cases hlt : k < later.length ∧ k < 100
              · obtain ⟨g1, g2⟩ := hlt
                have t1 : decide (k < later.length) = true := decide_eq_true g1
                have t2 : decide ((k : Int) < 100) = true := decide_eq_true (by omega)
                have t3 : (k : Int) < 100 := by omega
                obtain ⟨ad, rfl, hop⟩ := HOPT.out k g1
                generalize hx : later[k] = x at hop
                clear hx
                obtain ⟨q0, q1, q2, q3, q4, q5⟩ := hop
                generalize x.i = xi at q1
                generalize x.bv = xbv at q2 q4
                generalize x.b = xb at q4
                have o1 := cell_up q1 GB.out
                have o2 := cell_up q2 GB.out
                have Q1 := Lib.hid q1
                have Q2 := Lib.hid q2
                have HBY := Lib.hid q4
                clear q0 q1 q2 q3 q4 q5
                have HWR := Lib.hid (show ∀ W, Below wr.heap.size wr W → Calls Try.prog 9 #[.pointer (some ⟨D, 0, none⟩), .int .i64 xi, xbv] W fun e w' => ∃ (m : Int) (d' : Dsk), e = .returned (.int .i64 m) ∧ IsDk w.heap.size w' D d' ∧ Sc 8 d' (101 + (k + 1)) ∧ Chg w.heap.size DK wr w' ∧ d'.syncs = dd.syncs ∧ ((m = 0 ∧ d'.log = dd.log ++ [(xi, xb)] ∧ 0 ≤ xi ∧ xi < 8 ∧ xb.length ≤ 128) ∨ (m ≠ 0 ∧ d'.log = dd.log)) from fun W hW =>
                  (write_op2 w.heap.size W D dd 8 (101 + k) xi xbv xb (by decide) (HI.out.below hW) HSd.out (by omega) (Nat.le_trans GB.out.size hW.size) (HBY.out.chg (GB.out.trans (hW.mono GB.out.size)))).mono fun e w' ⟨m, d', e1, e2, e3, e4, e5, e6⟩ => ⟨m, d', e1, e2, e3, (Chg.of_below hW GB.out.size).trans e4, e5, e6⟩)
                go_wp2_with fail
                refine Go.Proofs.YtpbampnbgebpjaaW.PrintLast.start_ (n := 13) (S := fun v => v.cell? ⟨(ad.add (k * 4)).block, (ad.add (k * 4)).off + 1, none⟩ = some (.int .i64 xi) ∧ v.cell? ⟨(ad.add (k * 4)).block, (ad.add (k * 4)).off + 2, none⟩ = some xbv) (ds := [12]) #[false, false, false, false, false, false, false, false, false, false, false, false, false] (by kernel_rfl) rfl rfl ⟨o1, o2⟩ (fun hHeld => ?_)
                refine Go.Proofs.YtpbampnbgebpjaaW.PrintLast.pure_ (i := 0) (N := some 84) (v := ?_) (a' := ?_) #[true, false, false, false, false, false, false, false, false, false, false, false, false] rfl rfl (by kernel_rfl) (fun _ _ _ h => h) (Or.inl ⟨by rfl, ?_⟩) ?_ ?_
                rotate_left
                · intro w'
                  go_simp
                  with_reducible rfl
                rotate_left
                · simp only [Act.put, List.setIfInBounds_toArray, List.set_cons_zero, List.set_cons_succ, Go.Proofs.YtpbampnbgebpjaaW.PrintLast.i64_w, Go.Proofs.YtpbampnbgebpjaaW.PrintLast.i32_w]
                  rfl
                refine Go.Proofs.YtpbampnbgebpjaaW.PrintLast.pure_ (i := 1) (N := some 85) (v := ?_) (a' := ?_) #[true, true, false, false, false, false, false, false, false, false, false, false, false] rfl rfl (by kernel_rfl) (fun _ _ _ h => h) (Or.inl ⟨by rfl, ?_⟩) ?_ ?_
                rotate_left
                · intro w'
                  go_simp
                  with_reducible rfl
                rotate_left
                · simp only [Act.put, List.setIfInBounds_toArray, List.set_cons_zero, List.set_cons_succ, Go.Proofs.YtpbampnbgebpjaaW.PrintLast.i64_w, Go.Proofs.YtpbampnbgebpjaaW.PrintLast.i32_w]
                  rfl
                refine Go.Proofs.YtpbampnbgebpjaaW.PrintLast.pure_ (i := 2) (N := some 86) (v := ?_) (a' := ?_) #[true, true, true, false, false, false, false, false, false, false, false, false, false] rfl rfl (by kernel_rfl) (fun _ _ _ h => h) (Or.inl ⟨by rfl, ?_⟩) ?_ ?_
                rotate_left
                · intro w'
                  go_simp
                  with_reducible rfl
                rotate_left
                · simp only [Act.put, List.setIfInBounds_toArray, List.set_cons_zero, List.set_cons_succ, Go.Proofs.YtpbampnbgebpjaaW.PrintLast.i64_w, Go.Proofs.YtpbampnbgebpjaaW.PrintLast.i32_w]
                  rfl
                refine Go.Proofs.YtpbampnbgebpjaaW.PrintLast.pure_ (i := 3) (N := some 87) (v := ?_) (a' := ?_) #[true, true, true, true, false, false, false, false, false, false, false, false, false] rfl rfl (by kernel_rfl) (fun _ _ _ h => h) (Or.inl ⟨by rfl, ?_⟩) ?_ ?_
                rotate_left
                · intro w'
                  go_simp
                  with_reducible rfl
                rotate_left
                · simp only [Act.put, List.setIfInBounds_toArray, List.set_cons_zero, List.set_cons_succ, Go.Proofs.YtpbampnbgebpjaaW.PrintLast.i64_w, Go.Proofs.YtpbampnbgebpjaaW.PrintLast.i32_w]
                  rfl
                refine Go.Proofs.YtpbampnbgebpjaaW.PrintLast.pure_ (i := 4) (N := some 88) (v := ?_) (a' := ?_) #[true, true, true, true, true, false, false, false, false, false, false, false, false] rfl rfl (by kernel_rfl) (fun _ _ _ h => h) (Or.inl ⟨by rfl, ?_⟩) ?_ ?_
                rotate_left
                · intro w'
                  go_simp
                  with_reducible rfl
                rotate_left
                · simp only [Act.put, List.setIfInBounds_toArray, List.set_cons_zero, List.set_cons_succ, Go.Proofs.YtpbampnbgebpjaaW.PrintLast.i64_w, Go.Proofs.YtpbampnbgebpjaaW.PrintLast.i32_w]
                  rfl
                refine Go.Proofs.YtpbampnbgebpjaaW.PrintLast.take_ (i := 5) (N := some 89) (v := ?_) (a' := ?_) #[true, true, true, true, true, true, false, false, false, false, false, false, false] rfl rfl (by kernel_rfl) (fun _ _ _ h => h) (Or.inl ⟨by rfl, ?_⟩) hHeld ?_ ?_
                rotate_left
                · rintro w' ⟨s0, s1⟩
                  go_simp
                  with_reducible rfl
                rotate_left
                · simp only [Act.put, List.setIfInBounds_toArray, List.set_cons_zero, List.set_cons_succ, Go.Proofs.YtpbampnbgebpjaaW.PrintLast.i64_w, Go.Proofs.YtpbampnbgebpjaaW.PrintLast.i32_w]
                  rfl
                refine Go.Proofs.YtpbampnbgebpjaaW.PrintLast.pure_ (i := 6) (N := some 90) (v := ?_) (a' := ?_) #[true, true, true, true, true, true, true, false, false, false, false, false, false] rfl rfl (by kernel_rfl) (fun _ _ _ h => h) (Or.inl ⟨by rfl, ?_⟩) ?_ ?_
                rotate_left
                · intro w'
                  go_simp
                  with_reducible rfl
                rotate_left
                · simp only [Act.put, List.setIfInBounds_toArray, List.set_cons_zero, List.set_cons_succ, Go.Proofs.YtpbampnbgebpjaaW.PrintLast.i64_w, Go.Proofs.YtpbampnbgebpjaaW.PrintLast.i32_w]
                  rfl
                refine Go.Proofs.YtpbampnbgebpjaaW.PrintLast.pure_ (i := 7) (N := some 91) (v := ?_) (a' := ?_) #[true, true, true, true, true, true, true, true, false, false, false, false, false] rfl rfl (by kernel_rfl) (fun _ _ _ h => h) (Or.inl ⟨by rfl, ?_⟩) ?_ ?_
                rotate_left
                · intro w'
                  go_simp
                  with_reducible rfl
                rotate_left
                · simp only [Act.put, List.setIfInBounds_toArray, List.set_cons_zero, List.set_cons_succ, Go.Proofs.YtpbampnbgebpjaaW.PrintLast.i64_w, Go.Proofs.YtpbampnbgebpjaaW.PrintLast.i32_w]
                  rfl
                refine Go.Proofs.YtpbampnbgebpjaaW.PrintLast.pure_ (i := 8) (N := some 92) (v := ?_) (a' := ?_) #[true, true, true, true, true, true, true, true, true, false, false, false, false] rfl rfl (by kernel_rfl) (fun _ _ _ h => h) (Or.inl ⟨by rfl, ?_⟩) ?_ ?_
                rotate_left
                · intro w'
                  go_simp
                  with_reducible rfl
                rotate_left
                · simp only [Act.put, List.setIfInBounds_toArray, List.set_cons_zero, List.set_cons_succ, Go.Proofs.YtpbampnbgebpjaaW.PrintLast.i64_w, Go.Proofs.YtpbampnbgebpjaaW.PrintLast.i32_w]
                  rfl
                refine Go.Proofs.YtpbampnbgebpjaaW.PrintLast.pure_ (i := 9) (N := some 93) (v := ?_) (a' := ?_) #[true, true, true, true, true, true, true, true, true, true, false, false, false] rfl rfl (by kernel_rfl) (fun _ _ _ h => h) (Or.inl ⟨by rfl, ?_⟩) ?_ ?_
                rotate_left
                · intro w'
                  go_simp
                  with_reducible rfl
                rotate_left
                · simp only [Act.put, List.setIfInBounds_toArray, List.set_cons_zero, List.set_cons_succ, Go.Proofs.YtpbampnbgebpjaaW.PrintLast.i64_w, Go.Proofs.YtpbampnbgebpjaaW.PrintLast.i32_w]
                  rfl
                refine Go.Proofs.YtpbampnbgebpjaaW.PrintLast.take_ (i := 10) (N := some 94) (v := ?_) (a' := ?_) #[true, true, true, true, true, true, true, true, true, true, true, false, false] rfl rfl (by kernel_rfl) (fun _ _ _ h => h) (Or.inl ⟨by rfl, ?_⟩) hHeld ?_ ?_
                rotate_left
                · rintro w' ⟨s0, s1⟩
                  go_simp
                  with_reducible rfl
                rotate_left
                · simp only [Act.put, List.setIfInBounds_toArray, List.set_cons_zero, List.set_cons_succ, Go.Proofs.YtpbampnbgebpjaaW.PrintLast.i64_w, Go.Proofs.YtpbampnbgebpjaaW.PrintLast.i32_w]
                  rfl
                refine Go.Proofs.YtpbampnbgebpjaaW.PrintLast.one_ (i := 11) (N := some 95) #[true, true, true, true, true, true, true, true, true, true, true, true, false] rfl rfl (by kernel_rfl) (by decide) (fun K hK => ?_)
                refine Go.Proofs.YtpbampnbgebpjaaW.PrintLast.goes_ Try.func9 (by kernel_rfl) rfl #[.pointer (some ⟨D, 0, none⟩), .int .i64 xi, xbv] (by rfl) rfl rfl (by (try simp only [List.map_toArray, List.map_cons, List.map_nil]); first | done | rfl) ?_
                refine (HWR.out _ (Below.refl _ _).drew).mono ?_
                rintro e w2 ⟨m, d2, rfl, hi2, hs2, hc2, hy2, hm2⟩
                have HI2 := Lib.hid hi2
                have HS2 := Lib.hid hs2
                have HC2 := Lib.hid hc2
                have HY2 := Lib.hid hy2
                have HM2 := Lib.hid hm2
                have BW2 := Lib.hid (GB.out.trans hc2.below)
                clear hi2 hs2 hc2 hy2 hm2
                refine ⟨_, rfl, ?_⟩
                refine hK.out _ _ ⟨cell_up Q1.out BW2.out, cell_up Q2.out BW2.out⟩ (fun hHeld => ?_)
                clear hK K
                refine Go.Proofs.YtpbampnbgebpjaaW.PrintLast.norm_ (a' := ?_) ?_ ?_
                rotate_left
                · show Act.put _ (some 95) _ = _
                  simp only [Act.put, List.setIfInBounds_toArray, List.set_cons_zero, List.set_cons_succ, Go.Proofs.YtpbampnbgebpjaaW.PrintLast.i64_w, Go.Proofs.YtpbampnbgebpjaaW.PrintLast.i32_w]
                  rfl
                refine Go.Proofs.YtpbampnbgebpjaaW.PrintLast.pure_ (i := 12) (N := some 96) (v := ?_) (a' := ?_) #[true, true, true, true, true, true, true, true, true, true, true, true, true] rfl rfl (by kernel_rfl) (fun _ _ _ h => h) (Or.inl ⟨by rfl, ?_⟩) ?_ ?_
                rotate_left
                · intro w'
                  go_simp
                  with_reducible rfl
                rotate_left
                · simp only [Act.put, List.setIfInBounds_toArray, List.set_cons_zero, List.set_cons_succ, Go.Proofs.YtpbampnbgebpjaaW.PrintLast.i64_w, Go.Proofs.YtpbampnbgebpjaaW.PrintLast.i32_w]
                  rfl
                refine Go.Proofs.YtpbampnbgebpjaaW.PrintLast.done_ (by kernel_rfl) ?_
                clear hHeld HWR
                have WS2 := Lib.hid (HWs.out.keep (Kps.chg HC2.out))
                have MY2 := Lib.hid (HMy.out.keep (Kps.chg HC2.out))
                rcases HM2.out with ⟨rfl, hlog, hx0, hx8, hxl⟩ | ⟨hne, hlog⟩
                · clear HM2
                  have HXL := Lib.hid hxl
                  have HLG2 := Lib.hid hlog
                  clear hxl hlog
                  obtain ⟨q0, rfl⟩ := Int.eq_ofNat_of_zero_le hx0
                  have hq8 : q0 < 8 := by omega
                  obtain ⟨mv, vs, cB, hvl, hvo, hv1, hv2⟩ := MY2.out.get hq8
                  obtain ⟨ma, mc, rfl⟩ := own_slice hvo
                  have HVL := Lib.hid (show vs.length ≤ 100 by omega)
                  have HVE := Lib.hid hvl
                  have OW2 := Lib.hid hvo
                  have HV1 := Lib.hid hv1
                  have HV2 := Lib.hid hv2
                  clear hvl hvo hv1 hv2
                  have o1 := cell_up Q1.out BW2.out
                  have o2 := cell_up Q2.out BW2.out
                  go_wp2_with fail
                  refine Go.Proofs.YtpbampnbgebpjaaW.PrintLast.start_ (n := 22) (S := fun v => v.cell? ⟨(ad.add (k * 4)).block, (ad.add (k * 4)).off + 1, none⟩ = some (.int .i64 (q0 : Int)) ∧ v.cell? ⟨(ad.add (k * 4)).block, (ad.add (k * 4)).off + 2, none⟩ = some xbv ∧ v.cell? ⟨B, q0, none⟩ = some (.slice ma vs.length mc)) (ds := [21]) #[false, false, false, false, false, false, false, false, false, false, false, false, false, false, false, false, false, false, false, false, false, false] (by kernel_rfl) rfl rfl ⟨o1, o2, cB⟩ (fun hHeld => ?_)
                  refine Go.Proofs.YtpbampnbgebpjaaW.PrintLast.pure_ (i := 0) (N := some 97) (v := ?_) (a' := ?_) #[true, false, false, false, false, false, false, false, false, false, false, false, false, false, false, false, false, false, false, false, false, false] rfl rfl (by kernel_rfl) (fun _ _ _ h => h) (Or.inl ⟨by rfl, ?_⟩) ?_ ?_
                  rotate_left
                  · intro w'
                    go_simp
                    with_reducible rfl
                  rotate_left
                  · simp only [Act.put, List.setIfInBounds_toArray, List.set_cons_zero, List.set_cons_succ, Go.Proofs.YtpbampnbgebpjaaW.PrintLast.i64_w, Go.Proofs.YtpbampnbgebpjaaW.PrintLast.i32_w]
                    rfl
                  refine Go.Proofs.YtpbampnbgebpjaaW.PrintLast.pure_ (i := 1) (N := some 98) (v := ?_) (a' := ?_) #[true, true, false, false, false, false, false, false, false, false, false, false, false, false, false, false, false, false, false, false, false, false] rfl rfl (by kernel_rfl) (fun _ _ _ h => h) (Or.inl ⟨by rfl, ?_⟩) ?_ ?_
                  rotate_left
                  · intro w'
                    go_simp
                    with_reducible rfl
                  rotate_left
                  · simp only [Act.put, List.setIfInBounds_toArray, List.set_cons_zero, List.set_cons_succ, Go.Proofs.YtpbampnbgebpjaaW.PrintLast.i64_w, Go.Proofs.YtpbampnbgebpjaaW.PrintLast.i32_w]
                    rfl
                  refine Go.Proofs.YtpbampnbgebpjaaW.PrintLast.pure_ (i := 2) (N := some 99) (v := ?_) (a' := ?_) #[true, true, true, false, false, false, false, false, false, false, false, false, false, false, false, false, false, false, false, false, false, false] rfl rfl (by kernel_rfl) (fun _ _ _ h => h) (Or.inl ⟨by rfl, ?_⟩) ?_ ?_
                  rotate_left
                  · intro w'
                    go_simp
                    with_reducible rfl
                  rotate_left
                  · simp only [Act.put, List.setIfInBounds_toArray, List.set_cons_zero, List.set_cons_succ, Go.Proofs.YtpbampnbgebpjaaW.PrintLast.i64_w, Go.Proofs.YtpbampnbgebpjaaW.PrintLast.i32_w]
                    rfl
                  refine Go.Proofs.YtpbampnbgebpjaaW.PrintLast.pure_ (i := 3) (N := some 100) (v := ?_) (a' := ?_) #[true, true, true, true, false, false, false, false, false, false, false, false, false, false, false, false, false, false, false, false, false, false] rfl rfl (by kernel_rfl) (fun _ _ _ h => h) (Or.inl ⟨by rfl, ?_⟩) ?_ ?_
                  rotate_left
                  · intro w'
                    go_simp
                    with_reducible rfl
                  rotate_left
                  · simp only [Act.put, List.setIfInBounds_toArray, List.set_cons_zero, List.set_cons_succ, Go.Proofs.YtpbampnbgebpjaaW.PrintLast.i64_w, Go.Proofs.YtpbampnbgebpjaaW.PrintLast.i32_w]
                    rfl
                  refine Go.Proofs.YtpbampnbgebpjaaW.PrintLast.take_ (i := 4) (N := some 101) (v := ?_) (a' := ?_) #[true, true, true, true, true, false, false, false, false, false, false, false, false, false, false, false, false, false, false, false, false, false] rfl rfl (by kernel_rfl) (fun _ _ _ h => h) (Or.inl ⟨by rfl, ?_⟩) hHeld ?_ ?_
                  rotate_left
                  · rintro w' ⟨s0, s1, s2⟩
                    go_simp
                    with_reducible rfl
                  rotate_left
                  · simp only [Act.put, List.setIfInBounds_toArray, List.set_cons_zero, List.set_cons_succ, Go.Proofs.YtpbampnbgebpjaaW.PrintLast.i64_w, Go.Proofs.YtpbampnbgebpjaaW.PrintLast.i32_w]
                    rfl
                  refine Go.Proofs.YtpbampnbgebpjaaW.PrintLast.pure_ (i := 5) (N := some 102) (v := ?_) (a' := ?_) #[true, true, true, true, true, true, false, false, false, false, false, false, false, false, false, false, false, false, false, false, false, false] rfl rfl (by kernel_rfl) (fun _ _ _ h => h) (Or.inl ⟨by rfl, ?_⟩) ?_ ?_
                  rotate_left
                  · intro w'
                    go_simp
                    with_reducible rfl
                  rotate_left
                  · simp only [Act.put, List.setIfInBounds_toArray, List.set_cons_zero, List.set_cons_succ, Go.Proofs.YtpbampnbgebpjaaW.PrintLast.i64_w, Go.Proofs.YtpbampnbgebpjaaW.PrintLast.i32_w]
                    rfl
                  refine Go.Proofs.YtpbampnbgebpjaaW.PrintLast.pure_ (i := 6) (N := some 103) (v := ?_) (a' := ?_) #[true, true, true, true, true, true, true, false, false, false, false, false, false, false, false, false, false, false, false, false, false, false] rfl rfl (by kernel_rfl) (fun _ _ _ h => h) (Or.inl ⟨by rfl, ?_⟩) ?_ ?_
                  rotate_left
                  · intro w'
                    go_simp
                    with_reducible rfl
                  rotate_left
                  · simp only [Act.put, List.setIfInBounds_toArray, List.set_cons_zero, List.set_cons_succ, Go.Proofs.YtpbampnbgebpjaaW.PrintLast.i64_w, Go.Proofs.YtpbampnbgebpjaaW.PrintLast.i32_w]
                    rfl
                  refine Go.Proofs.YtpbampnbgebpjaaW.PrintLast.pure_ (i := 7) (N := some 104) (v := ?_) (a' := ?_) #[true, true, true, true, true, true, true, true, false, false, false, false, false, false, false, false, false, false, false, false, false, false] rfl rfl (by kernel_rfl) (fun _ _ _ h => h) (Or.inl ⟨by rfl, ?_⟩) ?_ ?_
                  rotate_left
                  · intro w'
                    go_simp
                    with_reducible rfl
                  rotate_left
                  · simp only [Act.put, List.setIfInBounds_toArray, List.set_cons_zero, List.set_cons_succ, Go.Proofs.YtpbampnbgebpjaaW.PrintLast.i64_w, Go.Proofs.YtpbampnbgebpjaaW.PrintLast.i32_w]
                    rfl
                  refine Go.Proofs.YtpbampnbgebpjaaW.PrintLast.pure_ (i := 8) (N := some 105) (v := ?_) (a' := ?_) #[true, true, true, true, true, true, true, true, true, false, false, false, false, false, false, false, false, false, false, false, false, false] rfl rfl (by kernel_rfl) (fun _ _ _ h => h) (Or.inl ⟨by rfl, ?_⟩) ?_ ?_
                  rotate_left
                  · intro w'
                    go_simp
                    with_reducible rfl
                  rotate_left
                  · simp only [Act.put, List.setIfInBounds_toArray, List.set_cons_zero, List.set_cons_succ, Go.Proofs.YtpbampnbgebpjaaW.PrintLast.i64_w, Go.Proofs.YtpbampnbgebpjaaW.PrintLast.i32_w]
                    rfl
                  refine Go.Proofs.YtpbampnbgebpjaaW.PrintLast.take_ (i := 9) (N := some 106) (v := ?_) (a' := ?_) #[true, true, true, true, true, true, true, true, true, true, false, false, false, false, false, false, false, false, false, false, false, false] rfl rfl (by kernel_rfl) (fun _ _ _ h => h) (Or.inl ⟨by rfl, ?_⟩) hHeld ?_ ?_
                  rotate_left
                  · rintro w' ⟨s0, s1, s2⟩
                    go_simp
                    with_reducible rfl
                  rotate_left
                  · simp only [Act.put, List.setIfInBounds_toArray, List.set_cons_zero, List.set_cons_succ, Go.Proofs.YtpbampnbgebpjaaW.PrintLast.i64_w, Go.Proofs.YtpbampnbgebpjaaW.PrintLast.i32_w]
                    rfl
                  refine Go.Proofs.YtpbampnbgebpjaaW.PrintLast.pure_ (i := 10) (N := some 107) (v := ?_) (a' := ?_) #[true, true, true, true, true, true, true, true, true, true, true, false, false, false, false, false, false, false, false, false, false, false] rfl rfl (by kernel_rfl) (fun _ _ _ h => h) (Or.inl ⟨by rfl, ?_⟩) ?_ ?_
                  rotate_left
                  · intro w'
                    go_simp
                    with_reducible rfl
                  rotate_left
                  · simp only [Act.put, List.setIfInBounds_toArray, List.set_cons_zero, List.set_cons_succ, Go.Proofs.YtpbampnbgebpjaaW.PrintLast.i64_w, Go.Proofs.YtpbampnbgebpjaaW.PrintLast.i32_w]
                    rfl
                  refine Go.Proofs.YtpbampnbgebpjaaW.PrintLast.take_ (i := 11) (N := some 108) (v := ?_) (a' := ?_) #[true, true, true, true, true, true, true, true, true, true, true, true, false, false, false, false, false, false, false, false, false, false] rfl rfl (by kernel_rfl) (fun _ _ _ h => h) (Or.inl ⟨by rfl, ?_⟩) hHeld ?_ ?_
                  rotate_left
                  · rintro w' ⟨s0, s1, s2⟩
                    go_simp
                    with_reducible rfl
                  rotate_left
                  · simp only [Act.put, List.setIfInBounds_toArray, List.set_cons_zero, List.set_cons_succ, Go.Proofs.YtpbampnbgebpjaaW.PrintLast.i64_w, Go.Proofs.YtpbampnbgebpjaaW.PrintLast.i32_w]
                    rfl
                  refine Go.Proofs.YtpbampnbgebpjaaW.PrintLast.pure_ (i := 12) (N := some 109) (v := ?_) (a' := ?_) #[true, true, true, true, true, true, true, true, true, true, true, true, true, false, false, false, false, false, false, false, false, false] rfl rfl (by kernel_rfl) (fun _ _ _ h => h) (Or.inl ⟨by rfl, ?_⟩) ?_ ?_
                  rotate_left
                  · intro w'
                    go_simp
                    with_reducible rfl
                  rotate_left
                  · simp only [Act.put, List.setIfInBounds_toArray, List.set_cons_zero, List.set_cons_succ, Go.Proofs.YtpbampnbgebpjaaW.PrintLast.i64_w, Go.Proofs.YtpbampnbgebpjaaW.PrintLast.i32_w]
                    rfl
                  refine Go.Proofs.YtpbampnbgebpjaaW.PrintLast.pure_ (i := 13) (N := some 110) (v := ?_) (a' := ?_) #[true, true, true, true, true, true, true, true, true, true, true, true, true, true, false, false, false, false, false, false, false, false] rfl rfl (by kernel_rfl) (fun _ _ _ h => h) (Or.inl ⟨by rfl, ?_⟩) ?_ ?_
                  rotate_left
                  · intro w'
                    go_simp
                    with_reducible rfl
                  rotate_left
                  · simp only [Act.put, List.setIfInBounds_toArray, List.set_cons_zero, List.set_cons_succ, Go.Proofs.YtpbampnbgebpjaaW.PrintLast.i64_w, Go.Proofs.YtpbampnbgebpjaaW.PrintLast.i32_w]
                    rfl
                  refine Go.Proofs.YtpbampnbgebpjaaW.PrintLast.pure_ (i := 14) (N := some 111) (v := ?_) (a' := ?_) #[true, true, true, true, true, true, true, true, true, true, true, true, true, true, true, false, false, false, false, false, false, false] rfl rfl (by kernel_rfl) (fun _ _ _ h => h) (Or.inl ⟨by rfl, ?_⟩) ?_ ?_
                  rotate_left
                  · intro w'
                    go_simp
                    with_reducible rfl
                  rotate_left
                  · simp only [Act.put, List.setIfInBounds_toArray, List.set_cons_zero, List.set_cons_succ, Go.Proofs.YtpbampnbgebpjaaW.PrintLast.i64_w, Go.Proofs.YtpbampnbgebpjaaW.PrintLast.i32_w]
                    rfl
                  refine Go.Proofs.YtpbampnbgebpjaaW.PrintLast.pure_ (i := 15) (N := some 112) (v := ?_) (a' := ?_) #[true, true, true, true, true, true, true, true, true, true, true, true, true, true, true, true, false, false, false, false, false, false] rfl rfl (by kernel_rfl) (fun _ _ _ h => h) (Or.inl ⟨by rfl, ?_⟩) ?_ ?_
                  rotate_left
                  · intro w'
                    go_simp
                    with_reducible rfl
                  rotate_left
                  · simp only [Act.put, List.setIfInBounds_toArray, List.set_cons_zero, List.set_cons_succ, Go.Proofs.YtpbampnbgebpjaaW.PrintLast.i64_w, Go.Proofs.YtpbampnbgebpjaaW.PrintLast.i32_w]
                    rfl
                  refine Go.Proofs.YtpbampnbgebpjaaW.PrintLast.take_ (i := 16) (N := some 113) (v := ?_) (a' := ?_) #[true, true, true, true, true, true, true, true, true, true, true, true, true, true, true, true, true, false, false, false, false, false] rfl rfl (by kernel_rfl) (fun _ _ _ h => h) (Or.inl ⟨by rfl, ?_⟩) hHeld ?_ ?_
                  rotate_left
                  · rintro w' ⟨s0, s1, s2⟩
                    go_simp
                    with_reducible rfl
                  rotate_left
                  · simp only [Act.put, List.setIfInBounds_toArray, List.set_cons_zero, List.set_cons_succ, Go.Proofs.YtpbampnbgebpjaaW.PrintLast.i64_w, Go.Proofs.YtpbampnbgebpjaaW.PrintLast.i32_w]
                    rfl
                  refine Go.Proofs.YtpbampnbgebpjaaW.PrintLast.one_ (i := 17) (N := some 114) #[true, true, true, true, true, true, true, true, true, true, true, true, true, true, true, true, true, true, false, false, false, false] rfl rfl (by kernel_rfl) (by decide) (fun K hK => ?_)
                  refine Go.Proofs.YtpbampnbgebpjaaW.PrintLast.goes_ Try.func12 (by kernel_rfl) rfl #[xbv] (by rfl) rfl rfl (by (try simp only [List.map_toArray, List.map_cons, List.map_nil]); first | done | rfl) ?_
                  refine (full_any _ xbv xb (HBY.out.chg BW2.out.drew) HXL.out).mono ?_
                  rintro e w4 ⟨fu, rfl, hfu, hb4⟩
                  obtain ⟨fa, fc, rfl⟩ := own_slice hfu
                  have O4 := Lib.hid (show Own8 w4 _ xb from ⟨_, hfu⟩)
                  have HB4 := Lib.hid (show Below w2.heap.size w2 w4 from (Below.refl _ w2).drew.trans hb4)
                  have BW4 := Lib.hid (BW2.out.trans (HB4.out.mono BW2.out.size))
                  have MY4 := Lib.hid (MY2.out.keep (Kps.below HB4.out))
                  have OW4 := Lib.hid (own_up OW2.out HB4.out)
                  have C4 := Lib.hid (cell_up cB HB4.out)
                  clear hfu hb4
                  refine ⟨_, rfl, ?_⟩
                  refine hK.out _ _ ⟨cell_up Q1.out BW4.out, cell_up Q2.out BW4.out, C4.out⟩ (fun hHeld => ?_)
                  clear hK K
                  refine Go.Proofs.YtpbampnbgebpjaaW.PrintLast.norm_ (a' := ?_) ?_ ?_
                  rotate_left
                  · show Act.put _ (some 114) _ = _
                    simp only [Act.put, List.setIfInBounds_toArray, List.set_cons_zero, List.set_cons_succ, Go.Proofs.YtpbampnbgebpjaaW.PrintLast.i64_w, Go.Proofs.YtpbampnbgebpjaaW.PrintLast.i32_w]
                    rfl
                  refine Go.Proofs.YtpbampnbgebpjaaW.PrintLast.one_ (i := 18) (N := some 115) #[true, true, true, true, true, true, true, true, true, true, true, true, true, true, true, true, true, true, true, false, false, false] rfl rfl (by kernel_rfl) (by decide) (fun K hK => ?_)
                  refine Go.Proofs.YtpbampnbgebpjaaW.PrintLast.value_ (w1 := w4.alloc (.cells #[.slice fa 128 fc] 30)) (v := .slice (some ⟨w4.heap.size, 0, none⟩) 1 1) (by rfl) rfl (by go_simp) ?_
                  refine hK.out _ _ ⟨cell_al _ hHeld.1, cell_al _ hHeld.2.1, cell_al _ hHeld.2.2⟩ (fun hHeld => ?_)
                  clear hK K
                  refine Go.Proofs.YtpbampnbgebpjaaW.PrintLast.norm_ (a' := ?_) ?_ ?_
                  rotate_left
                  · show Act.put _ (some 115) _ = _
                    simp only [Act.put, List.setIfInBounds_toArray, List.set_cons_zero, List.set_cons_succ, Go.Proofs.YtpbampnbgebpjaaW.PrintLast.i64_w, Go.Proofs.YtpbampnbgebpjaaW.PrintLast.i32_w]
                    rfl
                  refine Go.Proofs.YtpbampnbgebpjaaW.PrintLast.one_ (i := 19) (N := some 116) #[true, true, true, true, true, true, true, true, true, true, true, true, true, true, true, true, true, true, true, true, false, false] rfl rfl (by kernel_rfl) (by decide) (fun K hK => ?_)
                  refine step_append_cells (w0 := w4) (W := w4) w.heap.size (by rfl) (.tmp 108) (.tmp 115) 36 30 (.slice none 0 0) 1 24 rfl Try.underlying36 info_sl (by rfl) (by decide) (by decide) (.slice ma vs.length mc) vs.length vs [.slice fa 128 fc] (by rfl) (by rfl) (by rfl) (by simp [Value.oneCell']) OW4.out (Below.refl _ _) BW4.out.size (by have := HVL.out; omega) (fun mv1 w5 hown5 hB5 hg5 hv5 => ?_)
                  obtain ⟨na, nc, rfl⟩ := own_slice hown5
                  have BW5 := Lib.hid (BW4.out.grown hg5 BW4.out.size (fun g q => (own_kind OW4.out q).1))
                  obtain ⟨hz5, hc5⟩ := MY4.out.grown (q := q0) OW4.out hg5
                  have hcB := hc5.trans C4.out
                  have OW5 := Lib.hid hown5
                  have G5 := Lib.hid hg5
                  have V5 := Lib.hid hv5
                  clear hown5 hB5 hg5 hv5 hc5
                  refine hK.out _ _ ⟨cell_up Q1.out BW5.out, cell_up Q2.out BW5.out, hcB⟩ (fun hHeld => ?_)
                  clear hK K
                  refine Go.Proofs.YtpbampnbgebpjaaW.PrintLast.norm_ (a' := ?_) ?_ ?_
                  rotate_left
                  · show Act.put _ (some 116) _ = _
                    simp only [Act.put, List.setIfInBounds_toArray, List.set_cons_zero, List.set_cons_succ, Go.Proofs.YtpbampnbgebpjaaW.PrintLast.i64_w, Go.Proofs.YtpbampnbgebpjaaW.PrintLast.i32_w]
                    rfl
                  refine Go.Proofs.YtpbampnbgebpjaaW.PrintLast.pure_ (i := 20) (N := some 117) (v := ?_) (a' := ?_) #[true, true, true, true, true, true, true, true, true, true, true, true, true, true, true, true, true, true, true, true, true, false] rfl rfl (by kernel_rfl) (fun _ _ _ h => h) (Or.inl ⟨by rfl, ?_⟩) ?_ ?_
                  rotate_left
                  · intro w'
                    go_simp
                    with_reducible rfl
                  rotate_left
                  · simp only [Act.put, List.setIfInBounds_toArray, List.set_cons_zero, List.set_cons_succ, Go.Proofs.YtpbampnbgebpjaaW.PrintLast.i64_w, Go.Proofs.YtpbampnbgebpjaaW.PrintLast.i32_w]
                    rfl
                  refine Go.Proofs.YtpbampnbgebpjaaW.PrintLast.last_ (i := 21) (N := none) #[true, true, true, true, true, true, true, true, true, true, true, true, true, true, true, true, true, true, true, true, true, true] rfl rfl (by kernel_rfl) (by decide) (fun K hK => ?_)
                  refine Go.Proofs.YtpbampnbgebpjaaW.PrintLast.skip_ (w1 := w5.setCell ⟨B, q0, none⟩ (.slice na (vs.length + 1) nc)) (by rfl) rfl (by go_simp) ?_
                  refine hK.out _ _ ?_
                  clear hK K
                  refine Go.Proofs.YtpbampnbgebpjaaW.PrintLast.done_ (by kernel_rfl) ?_
                  have PF := Lib.hid (put_frame (q := q0) (u := .slice na (vs.length + 1) nc) MY4.out OW4.out G5.out)
                  have MY6 := Lib.hid (MY4.out.push hq8 O4.out _ vs C4.out OW4.out OW5.out G5.out V5.out HVE.out (fun u hu => by obtain ⟨l, hl⟩ := HV1.out u hu; exact ⟨l, hl.keep (Kps.below HB4.out)⟩) (fun p hp hpq => by obtain ⟨u, hu, ho⟩ := HV2.out p hp hpq; exact ⟨u, hu, ho.keep (Kps.below HB4.out)⟩))
                  have HI6 := Lib.hid ((HI2.out.below HB4.out).keepR (fun g o hg hr => PF.out g o hg (fun cur e => by subst e; cases hr) (fun cur e => by subst e; cases hr)))
                  have WS6 := Lib.hid ((WS2.out.keep (Kps.below HB4.out)).move PF.out)
                  have B6 := Lib.hid (BW5.out.setCell (p := ⟨B, q0, none⟩) hszB (.slice na (vs.length + 1) nc))
                  go_wp2_with fail
                  go_roundw
                  case rel => exact ⟨k + 1, d2, ex ++ [((q0 : Int), xb)], by go_num, by omega, by omega, by rw [List.length_append, List.length_singleton]; omega, HI6.out, HS2.out, HY2.out.trans HSy.out, by rw [HLG2.out, HLg.out, List.append_assoc], WS6.out, MY6.out, B6.out⟩
                  case measure => simp [intOf]; omega
                · have t4 : (m == 0) = false := beq_false_of_ne hne
                  have HLG2 := Lib.hid hlog
                  clear HM2 hlog hne
                  go_wp2_with fail
                  go_roundw
                  case rel => exact ⟨k + 1, d2, ex, by go_num, by omega, by omega, by omega, HI2.out, HS2.out, HY2.out.trans HSy.out, HLG2.out.trans HLg.out, WS2.out, MY2.out, BW2.out⟩
                  case measure => simp [intOf]; omega
              · have hx : (decide (k < later.length) = false) ∨ (decide (k < later.length) = true ∧ decide ((k : Int) < 100) = false) := by
                  by_cases g1 : k < later.length
                  · exact .inr ⟨decide_eq_true g1, decide_eq_false (by omega)⟩
                  · exact .inl (decide_eq_false g1)
                rcases hx with t1 | ⟨t1, t2⟩
                all_goals
                  go_wp2_with fail
                  refine (cut_in w.heap.size _ D dd v2 keep HI.out (HSd.out.fit (by omega)) GB.out.size HSd.out.N (HK2.out.chg GB.out)).mono ?_
                  rintro e w5 ⟨C, rfl, hi5, hb5⟩
                  have HLS := Lib.hid (show ∀ q, (leftD dd (safeOf dd) dd.log.length keep).now q = d.now q ∨ ∃ p ∈ ex, p.1 = q ∧ (leftD dd (safeOf dd) dd.log.length keep).now q = p.2 from fun q => left_sync dd d ex keep 8 _ _ HSd.out HS0.out HLg.out HSy.out q)
                  have HC5 := Lib.hid (show Has8 w.heap.size w5 C (leftD dd (safeOf dd) dd.log.length keep).now from ⟨_, hi5, HSd.out.N, rfl, HSd.out.left_len _ _ _ (Nat.le_refl _)⟩)
                  have HP5 := Lib.hid (pend_left w.heap.size w5 C dd _ _ keep hi5)
                  have WS5 := Lib.hid (HWs.out.keep (Kps.below hb5))
                  have MY5 := Lib.hid (HMy.out.keep (Kps.below hb5))
                  have BW5 := Lib.hid (bel GB.out hb5)
                  clear hi5 hb5 HI HWs HMy GB HSd HSy HLg
                  generalize (leftD dd (safeOf dd) dd.log.length keep).now = nl at HLS HC5
                  go_wp2_with fail
                  refine HP5.out.mono ?_
                  rintro e w6 ⟨rfl, nq, rfl⟩
                  have BD := below_drewN (Below.refl w5.heap.size w5) nq
                  have HC6 := Lib.hid (HC5.out.below BD)
                  have WS6 := Lib.hid (WS5.out.keep (Kps.below BD))
                  have MY6 := Lib.hid (MY5.out.keep (Kps.below BD))
                  have BW6 := Lib.hid (bel BW5.out BD)
                  clear BD HC5 WS5 MY5 BW5 HP5
                  generalize w5.drewN nq = w6 at HC6 WS6 MY6 BW6 ⊢
                  go_wp2_with fail
                  have hexl : ex.length ≤ 100 := by omega
                  clear hlt hk1 hk2 hex
                  go_loopw [17] (fun i wr => LD w C W B nl d.now ex i wr) (fun i _ => 9 - (intOf i).toNat)
                  case atStart => exact ⟨0, rfl, Nat.zero_le _, HC6.out, WS6.out, MY6.out, BW6.out⟩
                  case round =>
                    obtain ⟨j, rfl, hj, hh1, hh2, hh3, hbb⟩ := hrel
                    have G1 := Lib.hid hh1
                    have G2 := Lib.hid hh2
                    have G3 := Lib.hid hh3
                    have GB := Lib.hid hbb
                    clear hh1 hh2 hh3 hbb HC6 WS6 MY6 BW6
                    by_cases hjl : j < 8
                    · have t6 : decide ((j : Int) < 8) = true := decide_eq_true (by omega)
                      go_wp2_with fail
                      refine (read_has w.heap.size _ C j nl G1.out hjl).mono ?_
                      rintro e r1 ⟨b1, rfl, ho1, hb1⟩
                      obtain ⟨ba, bc, rfl⟩ := own_slice ho1
                      have O1 := Lib.hid (show Own8 r1 _ (nl j) from ⟨_, ho1⟩)
                      have B1 := Lib.hid (bel GB.out hb1)
                      have C1 := Lib.hid (G1.out.below hb1)
                      have W1 := Lib.hid (G2.out.keep (Kps.below hb1))
                      have M1 := Lib.hid (G3.out.keep (Kps.below hb1))
                      clear ho1 hb1 G1 G2 G3 GB
                      obtain ⟨wv, cw, ow⟩ := W1.out.cell hjl
                      obtain ⟨_, ow'⟩ := ow
                      obtain ⟨wa, wc, rfl⟩ := own_slice ow'
                      have OW := Lib.hid (show Own8 r1 _ (d.now j) from ⟨_, ow'⟩)
                      obtain ⟨mv, vs, cB, hvl, hvo, hv1, hv2⟩ := M1.out.get hjl
                      obtain ⟨ma, mc, rfl⟩ := own_slice hvo
                      have HVO := Lib.hid hvo
                      have HV1 := Lib.hid hv1
                      have HV2 := Lib.hid hv2
                      have hvs : vs.length ≤ 100 := by omega
                      clear ow' hvo hv1 hv2 hvl
                      go_wp2_with fail
                      refine (same_own _ _ _ _ _ O1.out OW.out).mono ?_
                      rintro e w' ⟨y, rfl, rfl, hy⟩
                      have HT := Lib.hid (hit_at (HLS.out j) HV2.out hy)
                      clear hy
                      obtain ⟨t0, ht1, ht2, ht3⟩ := HT.out
                      have HT2 := Lib.hid ht2
                      have HT3 := Lib.hid ht3
                      clear ht2 ht3 HT
                      go_wp2_with fail
                      go_loopw [20, 21] (fun o i wr => LE r1 vs.length t0 o i wr) (fun _ i _ => 102 - (intOf i).toNat)
                      case atStart => exact ⟨0, y, rfl, rfl, Nat.zero_le _, rfl, HT2.out⟩
                      case round =>
                        obtain ⟨k, x, rfl, rfl, hk, rfl, hx⟩ := hrel
                        have HX := Lib.hid hx
                        clear hx HT2
                        by_cases hkl : k < vs.length
                        · have t7 : decide (k < vs.length) = true := decide_eq_true hkl
                          obtain ⟨ua, uc, ad, rfl, hcell, hou⟩ := elem_at HVO.out hkl HV1.out
                          obtain ⟨l, ho, hl⟩ := pick_at (nl := nl j) hkl hou HT3.out
                          have HO := Lib.hid ho
                          have HL := Lib.hid hl
                          clear ho hl hou
                          go_wp2_with fail
                          refine (same_own _ _ _ _ _ O1.out HO.out).mono ?_
                          rintro e w' ⟨y2, rfl, rfl, hy2⟩
                          have HST := Lib.hid (show t0 < ((k + 1 : Nat) : Int) → (x || y2) = true from fun q => by
                            by_cases e : (k : Int) = t0
                            · rw [hy2 (HL.out e), Bool.or_true]
                            · rw [HX.out (by omega), Bool.true_or])
                          clear hy2 HX HL HO
                          cases x
                          · go_wp2_with fail
                            go_roundw
                            case rel => exact ⟨k + 1, y2, rfl, by go_num, by omega, rfl, fun q => HST.out q⟩
                            case measure => simp [intOf]; omega
                          · go_wp2_with fail
                            go_roundw
                            case rel => exact ⟨k + 1, true, rfl, by go_num, by omega, rfl, fun _ => rfl⟩
                            case measure => simp [intOf]; omega
                        · have t7 : decide (k < vs.length) = false := decide_eq_false (by omega)
                          have hxt : x = true := HX.out (by omega)
                          subst hxt
                          go_wp2_with fail
                          go_roundw
                          case rel => exact ⟨j + 1, by go_num, by omega, C1.out, W1.out, M1.out, B1.out⟩
                          case measure => simp [intOf]; omega
                    · have t6 : decide ((j : Int) < 8) = false := decide_eq_false (by omega)
                      go_wp2_with fail
                      go_ret
                      exact ⟨rfl, GB.out⟩
end Dk
end Go.Proofs.Ytpbampnbgebpjaa

namespace Go.Proofs.Ytpbampnbgebpjaa.diskSafe
open Go.ChangeShapes Go.WideShapes Go.ChangeAt Go.RowKit
set_option linter.unusedVariables false
set_option linter.unusedSimpArgs false
theorem own : ownKnob Try.prog.godebug = none := by kernel_rfl
theorem laidOut : laidOutB Try.prog = true := by kernel_rfl
set_option maxRecDepth 100000 in
theorem lifted (os : Os) (started : os.Started) (H : Type) (enc : TypeId × Value → H) :
    ReturnsInHanded {} Try.checked os 3 .any (Rows.diskSafeSpec.pre6 enc Try.prog Try.f3 Rows.diskSafeRow.domain false) (Rows.diskSafeSpec.post enc Try.prog Try.f3 false true false false) := by
  refine returnsInHanded_of_change_sized (C := Try.checked) own started (by kernel_rfl) Try.func3
    (ChangeSpec.witness6 (enc := enc) (C := Try.checked) false ⟨#[], #[.slice none 0 0, .slice none 0 0, .slice none 0 0], []⟩ 8 (by kernel_rfl) (by kernel_rfl) (by kernel_rfl) (by kernel_rfl)) ?_
  intro W base args ds gs before hval0 hW hcnd hsz0 _
  have hsz : (DataW.weightsEach Try.prog (Try.f3.params.toList ++ Rows.diskSafeSpec.plain.varTypes Try.prog) (ds ++ gs)).all (· ≤ reachBytes) = true := hsz0
  have hval : ∀ (j : Nat) t v, Try.f3.params[j]? = some t → args[j]? = some v → Value.okWide Try.prog W .any base t v := hval0
  have hW' := hW
  obtain ⟨p, q, hA0, hV, rfl, hfz, hnd⟩ := hW
  have hA : DataW.TrodAll enc Try.prog W 0 (fun _ => true) true Try.f3.params.toList args.toList ds p := hA0
  rw [Try.params3] at hA hval hsz
  obtain ⟨v0, vs0, d0, ds0, p0, q0, hargs, rfl, rfl, h0, r0⟩ := trodAll_cons hA
  obtain ⟨v1, vs1, d1, ds1, p1, q1, rfl, rfl, rfl, h1, r1⟩ := trodAll_cons r0
  obtain ⟨v2, vs2, d2, ds2, p2, q2, rfl, rfl, rfl, h2, r2⟩ := trodAll_cons r1
  obtain ⟨rfl, rfl, rfl⟩ := trodAll_nil r2
  obtain rfl : args = #[v0, v1, v2] := by cases args; simp_all
  obtain ⟨rfl, rfl⟩ := trodVars_none hV
  have k0 := h0
  have lt0 : ∀ x ∈ p0, x.block < W.heap.size := by obtain ⟨m, hm⟩ := k0; exact DataW.trod_lt m _ _ _ hm
  obtain ⟨sa0, sl0, sc0, rfl⟩ := okWide_slice Try.underlying22 (hval 0 22 v0 rfl rfl)
  obtain ⟨x0, o0⟩ : ∃ l, Dk.OpsIn W (.slice sa0 sl0 sc0) l := by obtain ⟨m, hm⟩ := k0; exact Dk.ops_in hm
  have k1 := h1
  have lt1 : ∀ x ∈ p1, x.block < W.heap.size := by obtain ⟨m, hm⟩ := k1; exact DataW.trod_lt m _ _ _ hm
  obtain ⟨sa1, sl1, sc1, rfl⟩ := okWide_slice Try.underlying22 (hval 1 22 v1 rfl rfl)
  obtain ⟨x1, o1⟩ : ∃ l, Dk.OpsIn W (.slice sa1 sl1 sc1) l := by obtain ⟨m, hm⟩ := k1; exact Dk.ops_in hm
  have k2 := h2
  have lt2 : ∀ x ∈ p2, x.block < W.heap.size := by obtain ⟨m, hm⟩ := k2; exact DataW.trod_lt m _ _ _ hm
  obtain ⟨sa2, sl2, sc2, rfl⟩ := okWide_slice Try.underlying23 (hval 2 23 v2 rfl rfl)
  obtain ⟨x2, o2⟩ : ∃ l, Dk.BoolsIn W (.slice sa2 sl2 sc2) l := by obtain ⟨m, hm⟩ := k2; exact Dk.bools_in hm
  clear hA0 hval0 hsz0 hsz
  refine ((fun v0 v1 v2 W o0 o1 o2 => Dk.safe_walk v0 v1 v2 W _ _ _ o0 o1 o2) _ _ _ W o0 o1 o2).mono fun e W' ⟨he, bel⟩ => ?_
  subst he
  exact ⟨_, rfl, _, _, _, [], _, [], hW', trodAll_mk1 (shut_bool Try.underlying4 _), (trodAll_cons_mk (Below.trod laidOut (by kernel_rfl) (of_decide_eq_true (by kernel_rfl)) k0 bel lt0) (trodAll_cons_mk (Below.trod laidOut (by kernel_rfl) (of_decide_eq_true (by kernel_rfl)) k1 bel lt1) (trodAll_cons_mk (Below.trod laidOut (by kernel_rfl) (of_decide_eq_true (by kernel_rfl)) k2 bel lt2) trodAll_mk0))), rfl, bel.frame _, fun h => by cases h⟩
theorem proved : Rows.DiskSafeSaid :=
  OpenClaim.holds_of_wide 3 Try.f3 rfl rfl rfl rfl rfl rfl rfl ⟨rfl, rfl, rfl, rfl, rfl⟩ rfl rfl rfl rfl rfl (by kernel_rfl) Try.func3 (by kernel_rfl)
    (of_decide_eq_true (by kernel_rfl)) (by unfold Func.isWrapper; first | (rw [if_pos (by decide +kernel)]; kernel_rfl) | (rw [if_neg (by decide +kernel)]; exact ⟨rfl, rfl⟩))
    (fun os started H enc _ => lifted os started H enc)
end Go.Proofs.Ytpbampnbgebpjaa.diskSafe
namespace Go.Proofs.Ytpbampnbgebpjaa
/-- THE ROW. -/
theorem diskSafe_said : Rows.DiskSafeSaid := diskSafe.proved
#print axioms diskSafe_said
end Go.Proofs.Ytpbampnbgebpjaa
