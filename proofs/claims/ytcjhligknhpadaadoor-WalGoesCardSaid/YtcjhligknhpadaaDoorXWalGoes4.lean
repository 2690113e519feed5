/-
  Records that are appended and flushed by one log, and more by the log that is opened on the same disk, are all there, in order, for the next one that is opened. It is proved for every input; the row lists a package-level table of octets, and two tables of Go's package unicode/utf8 (tied to the program's text; one of them is pinned).
-/
import Derived.Test.YtcjhligknhpadaaDoorXWalGoes3
import Derived.Deep.Slices
import Derived.Deep.Grids
import Derived.ChangeSame
import Derived.SizedLaws
import Derived.WideShapes
import Derived.OpenShut
import Derived.ChangeSlices
import Derived.Laws.BytesArg
import Derived.Test.YtcjhligknhpadaaDoorXWalGoes1
import Derived.WalkLawsBesides
namespace Go.Proofs.YtcjhligknhpadaaDoor
open Go.RowKit Go.ChangeShapes Go.WideShapes Go.Deep Go.Proofs.YtcjhligknhpadaaDoor.Wp Go.Proofs.YtcjhligknhpadaaDoorW.PrintWords Go.Proofs.YtcjhligknhpadaaDoorW.PrintLast
set_option linter.unusedVariables false
set_option linter.unusedSimpArgs false
namespace Dk

def RowsIn (w : World) (v : Value) (rs : List (List Int)) : Prop := ∃ (a : Option Addr) (c : Nat), v = .slice a rs.length c ∧ rs.length ≤ 9223372036854775807 ∧ ∀ j (hj : j < rs.length), ∃ ad u, a = some ad ∧ w.cell? (ad.add j) = some u ∧ BytesIn w u rs[j]
theorem rows_in {H : Type} {enc : TypeId × Value → H} {w : World} {base : Nat} {spare : Nat → Bool} {held : Bool} {v : Value} {x : DataW H × List MemPlace} {fuel : Nat} (hf : DataW.trod enc Tryd.prog w base spare held fuel 30 [v] = some x) : ∃ l, RowsIn w v l := by
  rcases open_slice1 Tryd.underlying30 (by kernel_rfl) hf with ⟨hcs, _⟩ | ⟨a, len, c, m, n, V, D, Pl, hcs, hb, hl, hm, hmm, _, hi⟩
  · cases hcs
    exact ⟨[], none, 0, rfl, by simp, fun j hj => by simp at hj⟩
  · cases hcs
    have hlm : len ≤ m := by
      rw [hmm]
      split
      · exact hl
      · exact Nat.le_refl _
    have hex : ∀ j, j < len → ∃ l, BytesIn w (V j) l := fun j hj => bytes_in (hi j (by omega)).2
    let g : Nat → List Int := fun j => if q : j < len then (hex j q).choose else []
    have hg : ∀ j, j < len → BytesIn w (V j) (g j) := by
      intro j q
      show BytesIn w (V j) (if q : j < len then (hex j q).choose else [])
      rw [dif_pos q]
      exact (hex j q).choose_spec
    have hlen : ((List.range len).map g).length = len := by simp
    refine ⟨(List.range len).map g, some a, c, by rw [hlen], by rw [hlen]; unfold maxLen at hm; omega, fun j hj => ?_⟩
    rw [hlen] at hj
    refine ⟨a, V j, rfl, (hi j (by omega)).1, ?_⟩
    rw [List.getElem_map, List.getElem_range]
    exact hg j hj
/-- what is below a place stays -/
theorem BytesIn.mono {w w' : World} {v : Value} {l : List Int} (h : BytesIn w v l) (hc : ∀ a u, w.cell? a = some u → w'.cell? a = some u) : BytesIn w' v l := by
  obtain ⟨a, c, h1, h2, h3, h4⟩ := h
  exact ⟨a, c, h1, h2, h3, fun j hj => by obtain ⟨ad, q1, q2⟩ := h4 j hj; exact ⟨ad, q1, hc _ _ q2⟩⟩
theorem RowsIn.mono {w w' : World} {v : Value} {rs : List (List Int)} (h : RowsIn w v rs) (hc : ∀ a u, w.cell? a = some u → w'.cell? a = some u) : RowsIn w' v rs := by
  obtain ⟨a, c, h1, h2, h3⟩ := h
  exact ⟨a, c, h1, h2, fun j hj => by obtain ⟨ad, u, q1, q2, q3⟩ := h3 j hj; exact ⟨ad, u, q1, hc _ _ q2, q3.mono hc⟩⟩
theorem BoolsIn.mono {w w' : World} {v : Value} {l : List Bool} (h : BoolsIn w v l) (hc : ∀ a u, w.cell? a = some u → w'.cell? a = some u) : BoolsIn w' v l := by
  obtain ⟨a, c, h1, h2, h3⟩ := h
  exact ⟨a, c, h1, h2, fun j hj => by obtain ⟨ad, q1, q2⟩ := h3 j hj; exact ⟨ad, q1, hc _ _ q2⟩⟩
theorem below_cells {w w' : World} (h : Below w.heap.size w w') : ∀ a u, w.cell? a = some u → w'.cell? a = some u := fun a u hc => cell_up hc h
theorem RowsAt.in_ {av : Av} {base : Nat} {w : World} {v : Value} {rs : List (List Int)} (h : RowsAt (av := av) base w v rs) (hn : rs.length ≤ 1000000) (hr : ∀ r ∈ rs, r.length ≤ 1000000) : RowsIn w v rs := by
  rcases Nat.eq_zero_or_pos rs.length with h0 | hpos
  · obtain ⟨vs, h1, h2, h3⟩ := h
    obtain ⟨a, c, rfl⟩ := own_slice h3
    exact ⟨a, c, rfl, by omega, fun j hj => by omega⟩
  · obtain ⟨g, c, u0, hv, _, _, _⟩ := RowsAt.at_ (av := av) h hpos
    refine ⟨some ⟨g, 0, none⟩, c, hv, by omega, fun j hj => ?_⟩
    obtain ⟨g', c', u, hv', _, hc, hby⟩ := RowsAt.at_ (av := av) h hj
    rw [hv] at hv'
    cases hv'
    refine ⟨_, u, rfl, by rw [add_00]; exact hc, ?_⟩
    obtain ⟨ua, uc, rfl⟩ := byts_slice (av := av) hby
    exact ⟨ua, uc, rfl, hby.1.1, by have := hr _ (List.getElem_mem hj); omega, byts_read (av := av) hby⟩
theorem conv_any (w : World) (v : Value) (l : List Int) (h : BytesIn w v l) : (convert 22 9 v).run Tryd.prog w = .ok (.string (strOfNums l)) w := by
  obtain ⟨a, c, rfl, _, _, h4⟩ := h
  cases a with
  | none =>
    have e : l = [] := by
      cases l with
      | nil => rfl
      | cons x l => obtain ⟨_, q, _⟩ := h4 0 (by simp); cases q
    subst e
    exact run_convert_bytes_nil w 22 5 Tryd.underlying22 Tryd.underlying5 0 c 9 Tryd.underlying9
  | some ad =>
    have hl : (loadCells ad l.length).run Tryd.prog w = .ok (l.map (Value.int .u8)).toArray w := by
      have := run_loadCells_list (P := Tryd.prog) w ad (l.map (Value.int .u8)) (fun j v hj => by
        have hjl : j < l.length := by
          apply Classical.byContradiction
          intro q
          rw [List.getElem?_eq_none (by rw [List.length_map]; omega)] at hj
          cases hj
        obtain ⟨_, q, hc⟩ := h4 j hjl
        cases q
        rw [hc]
        rw [List.getElem?_map, List.getElem?_eq_getElem hjl] at hj
        rw [List.getD_eq_getElem?_getD, List.getElem?_eq_getElem hjl]
        exact hj)
      simpa using this
    rw [run_convert_bytes_string w 22 9 5 _ _ c Tryd.underlying22 Tryd.underlying5 Tryd.underlying9, run_bytesToString w _ _ c l hl, foldl_push_bytes]
    simp [strOfNums, ByteArray.empty, ByteArray.emptyWithCapacity]
    rfl
theorem str_inj : ∀ {a b : List Int}, IsBy a → IsBy b → strOfNums a = strOfNums b → a = b := by
  intro a b ha hb h
  have h2 : a.map (fun n => UInt8.ofNat n.toNat) = b.map (fun n => UInt8.ofNat n.toNat) := by rw [← strOfNums_data, ← strOfNums_data, h]
  apply List.ext_getElem (by simpa using congrArg List.length h2)
  intro i h3 h4
  have h5 := congrArg (·[i]?) h2
  simp only [List.getElem?_map, List.getElem?_eq_getElem h3, List.getElem?_eq_getElem h4, Option.map_some, Option.some.injEq] at h5
  have q1 := ha _ (List.getElem_mem h3)
  have q2 := hb _ (List.getElem_mem h4)
  have h6 := congrArg UInt8.toNat h5
  simp only [UInt8.toNat_ofNat'] at h6
  omega
theorem str_ne {s t : ByteArray} (h : ¬ s = t) : (s.toList == t.toList) = false := by
  rw [beq_eq_false_iff_ne, ByteArray.toList_eq, ByteArray.toList_eq]
  intro q
  apply h
  obtain ⟨⟨a⟩⟩ := s
  obtain ⟨⟨b⟩⟩ := t
  simp only at q
  rw [q]
theorem pick_any (c n : Int) (w : World) (h0 : -9223372036854775808 ≤ c) (h1 : c ≤ 9223372036854775807) (hn : 0 < n) (hn2 : n ≤ 1000000) : Calls Tryd.prog 17 #[.int .i64 c, .int .i64 n] w fun e w' => (∃ r : Nat, (r : Int) < n ∧ e = .returned (.int .i64 r)) ∧ w = w' := by
  have hnz : ¬ n = 0 := by omega
  by_cases hc : c < 0
  · have t0 : decide (c < 0) = true := decide_eq_true hc
    have e1 : IntKind.i64.wrap (c + 1) = c + 1 := IntWalk.i64_in _ (by omega)
    have e2 : IntKind.i64.wrap (-(c + 1)) = -(c + 1) := IntWalk.i64_in _ (by omega)
    go_enter Tryd.func17, Tryd.ntmps17
    go_wp2_with fail
    go_ret
    have e : -((c + 1).tmod n) = (-(c + 1)) % n := by rw [← Int.neg_tmod, Int.tmod_eq_emod_of_nonneg (by omega)]
    have p1 := Int.emod_nonneg (-(c + 1)) hnz
    have p2 := Int.emod_lt_of_pos (-(c + 1)) hn
    exact ⟨⟨((-(c + 1)) % n).toNat, by omega, by rw [show (((-(c + 1)) % n).toNat : Int) = (-(c + 1)) % n by omega, ← e]; rfl⟩, rfl⟩
  · have t0 : decide (c < 0) = false := decide_eq_false hc
    go_enter Tryd.func17, Tryd.ntmps17
    go_wp2_with fail
    go_ret
    have p1 := Int.emod_nonneg c hnz
    have p2 := Int.emod_lt_of_pos c hn
    exact ⟨⟨(c % n).toNat, by omega, by rw [show ((c % n).toNat : Int) = c % n by omega]; rfl⟩, rfl⟩
def LSm (w : World) (n : Nat) (rs qs : List (List Int)) (i : Value) (wr : World) : Prop := ∃ k : Nat, k ≤ n ∧ i = .int .i64 k ∧ (∃ n, wr = w.drewN n) ∧ rs.take k = qs.take k
set_option maxHeartbeats 2000000 in
set_option maxRecDepth 100000 in
theorem same_rows (w : World) (v1 v2 : Value) (rs qs : List (List Int)) (h1 : RowsIn w v1 rs) (h2 : RowsIn w v2 qs) : Calls Tryd.prog 23 #[v1, v2] w fun e w' => e = .returned (.bool (decide (rs = qs))) ∧ ∃ n, w' = w.drewN n := by
  obtain ⟨a1, c1, rfl, l1, r1⟩ := h1
  obtain ⟨a2, c2, rfl, l2, r2⟩ := h2
  have R1 := Lib.hid r1
  have R2 := Lib.hid r2
  clear r1 r2
  by_cases hl : rs.length = qs.length
  · rw [← hl]
    obtain ⟨n, hn⟩ : ∃ n, rs.length = n := ⟨_, rfl⟩
    rw [hn]
    rw [hn] at l1 hl
    have HLN := Lib.hid hn
    have HLL := Lib.hid hl
    clear hl hn l2
    have tl : ((n : Int) == (n : Int)) = true := by simp
    go_enter Tryd.func23, Tryd.ntmps23
    go_wp2_with fail
    go_loopw [5] (fun i wr => LSm w n rs qs i wr) (fun i _ => n + 1 - (intOf i).toNat)
    case atStart => exact ⟨0, Nat.zero_le _, rfl, ⟨0, rfl⟩, rfl⟩
    case round =>
      obtain ⟨k, hk, rfl, ⟨nd, rfl⟩, heq⟩ := hrel
      by_cases hkl : k < n
      · have t1 : decide ((k : Int) < (n : Int)) = true := decide_eq_true (by omega)
        have hk1 : k < rs.length := by have := HLN.out; omega
        have hk2 : k < qs.length := by have := HLL.out; omega
        obtain ⟨x, u1, rfl, g1, b1⟩ := R1.out k hk1
        obtain ⟨y, u2, rfl, g2, b2⟩ := R2.out k (by have := HLL.out; omega)
        have g3 : ∀ W : World, (∀ a u, w.cell? a = some u → W.cell? a = some u) → _ := fun W hW => conv_any W u1 _ (b1.mono hW)
        have g4 : ∀ W : World, (∀ a u, w.cell? a = some u → W.cell? a = some u) → _ := fun W hW => conv_any W u2 _ (b2.mono hW)
        have hb1 := b1.choose_spec.choose_spec.2.1
        have hb2 := b2.choose_spec.choose_spec.2.1
        have HINJ := Lib.hid (str_inj hb1 hb2)
        clear b1 b2 hb1 hb2
        generalize hs1 : strOfNums rs[k] = s1 at g3 HINJ
        generalize hs2 : strOfNums qs[k] = s2 at g4 HINJ
        have C1 := Lib.hid g3
        have C2 := Lib.hid g4
        clear g3 g4
        go_wp2_with fail
        refine Go.Proofs.YtcjhligknhpadaaDoorW.PrintLast.start_ (n := 11) (S := fun v => v.cell? (x.add k) = some u1 ∧ v.cell? (y.add k) = some u2 ∧ (convert 22 9 u1).run Tryd.prog v = .ok (.string s1) v ∧ (convert 22 9 u2).run Tryd.prog v = .ok (.string s2) v) (ds := [10]) #[false, false, false, false, false, false, false, false, false, false, false] (by kernel_rfl) rfl rfl ⟨g1, g2, C1.out _ (fun _ _ q => q), C2.out _ (fun _ _ q => q)⟩ (fun hHeld => ?_)
        refine Go.Proofs.YtcjhligknhpadaaDoorW.PrintLast.pure_ (i := 0) (N := some 17) (v := ?_) (a' := ?_) #[true, false, false, false, false, false, false, false, false, false, false] rfl rfl (by kernel_rfl) (fun _ _ _ h => h) (Or.inl ⟨by rfl, ?_⟩) ?_ ?_
        rotate_left
        · intro w'
          go_simp
          with_reducible rfl
        rotate_left
        · simp only [Act.put, List.setIfInBounds_toArray, List.set_cons_zero, List.set_cons_succ, Go.Proofs.YtcjhligknhpadaaDoorW.PrintLast.i64_w, Go.Proofs.YtcjhligknhpadaaDoorW.PrintLast.i32_w]
          rfl
        refine Go.Proofs.YtcjhligknhpadaaDoorW.PrintLast.pure_ (i := 1) (N := some 18) (v := ?_) (a' := ?_) #[true, true, false, false, false, false, false, false, false, false, false] rfl rfl (by kernel_rfl) (fun _ _ _ h => h) (Or.inl ⟨by rfl, ?_⟩) ?_ ?_
        rotate_left
        · intro w'
          go_simp
          with_reducible rfl
        rotate_left
        · simp only [Act.put, List.setIfInBounds_toArray, List.set_cons_zero, List.set_cons_succ, Go.Proofs.YtcjhligknhpadaaDoorW.PrintLast.i64_w, Go.Proofs.YtcjhligknhpadaaDoorW.PrintLast.i32_w]
          rfl
        refine Go.Proofs.YtcjhligknhpadaaDoorW.PrintLast.pure_ (i := 2) (N := some 19) (v := ?_) (a' := ?_) #[true, true, true, false, false, false, false, false, false, false, false] rfl rfl (by kernel_rfl) (fun _ _ _ h => h) (Or.inl ⟨by rfl, ?_⟩) ?_ ?_
        rotate_left
        · intro w'
          go_simp
          with_reducible rfl
        rotate_left
        · simp only [Act.put, List.setIfInBounds_toArray, List.set_cons_zero, List.set_cons_succ, Go.Proofs.YtcjhligknhpadaaDoorW.PrintLast.i64_w, Go.Proofs.YtcjhligknhpadaaDoorW.PrintLast.i32_w]
          rfl
        refine Go.Proofs.YtcjhligknhpadaaDoorW.PrintLast.take_ (i := 3) (N := some 20) (v := ?_) (a' := ?_) #[true, true, true, true, false, false, false, false, false, false, false] rfl rfl (by kernel_rfl) (fun _ _ _ h => h) (Or.inl ⟨by rfl, ?_⟩) hHeld ?_ ?_
        rotate_left
        · rintro w' ⟨s0, s1, s2, s3⟩
          go_simp
          with_reducible rfl
        rotate_left
        · simp only [Act.put, List.setIfInBounds_toArray, List.set_cons_zero, List.set_cons_succ, Go.Proofs.YtcjhligknhpadaaDoorW.PrintLast.i64_w, Go.Proofs.YtcjhligknhpadaaDoorW.PrintLast.i32_w]
          rfl
        refine Go.Proofs.YtcjhligknhpadaaDoorW.PrintLast.take_ (i := 4) (N := some 21) (v := ?_) (a' := ?_) #[true, true, true, true, true, false, false, false, false, false, false] rfl rfl (by kernel_rfl) (fun _ _ _ h => h) (Or.inl ⟨by rfl, ?_⟩) hHeld ?_ ?_
        rotate_left
        · rintro w' ⟨s0, s1, s2, s3⟩
          go_simp
          with_reducible rfl
        rotate_left
        · simp only [Act.put, List.setIfInBounds_toArray, List.set_cons_zero, List.set_cons_succ, Go.Proofs.YtcjhligknhpadaaDoorW.PrintLast.i64_w, Go.Proofs.YtcjhligknhpadaaDoorW.PrintLast.i32_w]
          rfl
        refine Go.Proofs.YtcjhligknhpadaaDoorW.PrintLast.pure_ (i := 5) (N := some 22) (v := ?_) (a' := ?_) #[true, true, true, true, true, true, false, false, false, false, false] rfl rfl (by kernel_rfl) (fun _ _ _ h => h) (Or.inl ⟨by rfl, ?_⟩) ?_ ?_
        rotate_left
        · intro w'
          go_simp
          with_reducible rfl
        rotate_left
        · simp only [Act.put, List.setIfInBounds_toArray, List.set_cons_zero, List.set_cons_succ, Go.Proofs.YtcjhligknhpadaaDoorW.PrintLast.i64_w, Go.Proofs.YtcjhligknhpadaaDoorW.PrintLast.i32_w]
          rfl
        refine Go.Proofs.YtcjhligknhpadaaDoorW.PrintLast.pure_ (i := 6) (N := some 23) (v := ?_) (a' := ?_) #[true, true, true, true, true, true, true, false, false, false, false] rfl rfl (by kernel_rfl) (fun _ _ _ h => h) (Or.inl ⟨by rfl, ?_⟩) ?_ ?_
        rotate_left
        · intro w'
          go_simp
          with_reducible rfl
        rotate_left
        · simp only [Act.put, List.setIfInBounds_toArray, List.set_cons_zero, List.set_cons_succ, Go.Proofs.YtcjhligknhpadaaDoorW.PrintLast.i64_w, Go.Proofs.YtcjhligknhpadaaDoorW.PrintLast.i32_w]
          rfl
        refine Go.Proofs.YtcjhligknhpadaaDoorW.PrintLast.pure_ (i := 7) (N := some 24) (v := ?_) (a' := ?_) #[true, true, true, true, true, true, true, true, false, false, false] rfl rfl (by kernel_rfl) (fun _ _ _ h => h) (Or.inl ⟨by rfl, ?_⟩) ?_ ?_
        rotate_left
        · intro w'
          go_simp
          with_reducible rfl
        rotate_left
        · simp only [Act.put, List.setIfInBounds_toArray, List.set_cons_zero, List.set_cons_succ, Go.Proofs.YtcjhligknhpadaaDoorW.PrintLast.i64_w, Go.Proofs.YtcjhligknhpadaaDoorW.PrintLast.i32_w]
          rfl
        refine Go.Proofs.YtcjhligknhpadaaDoorW.PrintLast.take_ (i := 8) (N := some 25) (v := ?_) (a' := ?_) #[true, true, true, true, true, true, true, true, true, false, false] rfl rfl (by kernel_rfl) (fun _ _ _ h => h) (Or.inl ⟨by rfl, ?_⟩) hHeld ?_ ?_
        rotate_left
        · rintro w' ⟨s0, s1, s2, s3⟩
          go_simp
          with_reducible rfl
        rotate_left
        · simp only [Act.put, List.setIfInBounds_toArray, List.set_cons_zero, List.set_cons_succ, Go.Proofs.YtcjhligknhpadaaDoorW.PrintLast.i64_w, Go.Proofs.YtcjhligknhpadaaDoorW.PrintLast.i32_w]
          rfl
        refine Go.Proofs.YtcjhligknhpadaaDoorW.PrintLast.take_ (i := 9) (N := some 26) (v := ?_) (a' := ?_) #[true, true, true, true, true, true, true, true, true, true, false] rfl rfl (by kernel_rfl) (fun _ _ _ h => h) (Or.inl ⟨by rfl, ?_⟩) hHeld ?_ ?_
        rotate_left
        · rintro w' ⟨s0, s1, s2, s3⟩
          go_simp
          with_reducible rfl
        rotate_left
        · simp only [Act.put, List.setIfInBounds_toArray, List.set_cons_zero, List.set_cons_succ, Go.Proofs.YtcjhligknhpadaaDoorW.PrintLast.i64_w, Go.Proofs.YtcjhligknhpadaaDoorW.PrintLast.i32_w]
          rfl
        refine Go.Proofs.YtcjhligknhpadaaDoorW.PrintLast.pure_ (i := 10) (N := some 27) (v := ?_) (a' := ?_) #[true, true, true, true, true, true, true, true, true, true, true] rfl rfl (by kernel_rfl) (fun _ _ _ h => h) (Or.inl ⟨by rfl, ?_⟩) ?_ ?_
        rotate_left
        · intro w'
          go_simp
          with_reducible rfl
        rotate_left
        · simp only [Act.put, List.setIfInBounds_toArray, List.set_cons_zero, List.set_cons_succ, Go.Proofs.YtcjhligknhpadaaDoorW.PrintLast.i64_w, Go.Proofs.YtcjhligknhpadaaDoorW.PrintLast.i32_w]
          rfl
        refine Go.Proofs.YtcjhligknhpadaaDoorW.PrintLast.done_ (by kernel_rfl) ?_
        by_cases hss : s1 = s2
        · subst hss
          simp only [show (s1.toList == s1.toList) = true by simp, Bool.not_true]
          go_wp2_with fail
          go_roundw
          case rel => exact ⟨k + 1, hkl, by go_num, ⟨_, rfl⟩, by rw [List.take_add_one, List.take_add_one, heq, List.getElem?_eq_getElem (show k < rs.length by have := HLN.out; omega), List.getElem?_eq_getElem (show k < qs.length by have := HLL.out; omega), HINJ.out rfl]⟩
          case measure => simp [intOf]; omega
        · have hnb := str_ne hss
          simp only [hnb, Bool.not_false]
          have hne : rs ≠ qs := fun q => hss (by subst q; exact hs1.symm.trans hs2)
          go_wp2_with fail
          go_ret
          exact ⟨by rw [decide_eq_false hne]; rfl, ⟨nd + 1, rfl⟩⟩
      · have t1 : decide ((k : Int) < (n : Int)) = false := decide_eq_false (by omega)
        have he : rs = qs := by
          have e1 : rs.take k = rs := List.take_of_length_le (by have := HLN.out; omega)
          have e2 : qs.take k = qs := List.take_of_length_le (by have := HLL.out; omega)
          rw [e1, e2] at heq
          exact heq
        go_wp2_with fail
        go_ret
        exact ⟨by rw [decide_eq_true he]; rfl, ⟨_, rfl⟩⟩
  · have tl : ((rs.length : Int) == (qs.length : Int)) = false := by simp; omega
    have hne : rs ≠ qs := fun q => hl (by rw [q])
    go_enter Tryd.func23, Tryd.ntmps23
    go_wp2_with fail
    go_ret
    exact ⟨by rw [decide_eq_false hne]; rfl, ⟨0, rfl⟩⟩
end Dk
end Go.Proofs.YtcjhligknhpadaaDoor

namespace Go.Proofs.YtcjhligknhpadaaDoor
open Go.RowKit Go.Proofs.YtcjhligknhpadaaDoorW.PrintWords Go.Proofs.YtcjhligknhpadaaDoorW.PrintLast
set_option linter.unusedVariables false
set_option linter.unusedSimpArgs false
namespace Dk
set_option maxHeartbeats 2000000 in
set_option maxRecDepth 100000 in
theorem left_some2 [av : Av] (base bs : Nat) (w : World) (D : Nat) (d : Dsk) (safe n : Nat) (KA : Option Addr) (kc : Nat) (keep : List Bool) (h : IsDk base w D d) (hf : d.Fit) (hbw : bs ≤ w.heap.size) (hN : 1 ≤ d.N ∧ d.N ≤ 4096) (hs : safe ≤ n) (hn : n ≤ d.log.length) (hpos : 0 < d.log.length)
    (hkl : keep.length ≤ 9223372036854775807) (hk : ∀ j, j < keep.length → ∃ a, KA = some a ∧ w.cell? (a.add j) = some (.bool (keep.getD j false))) :
    Calls Tryd.prog 44 #[.pointer (some ⟨D, 0, none⟩), .int .i64 safe, .int .i64 n, .slice KA keep.length kc] w fun e w' => ∃ C, e = .returned (.pointer (some ⟨C, 0, none⟩)) ∧ IsDk bs w' C (leftD d safe n keep) ∧ Below w.heap.size w w' := by
  obtain ⟨F, M, lv, sv, hd⟩ := h
  obtain ⟨c0, c1, _, c3, _⟩ := hd.cells
  obtain ⟨esF, cF, hF, hFk, hFb⟩ := hd.hF
  have HD := Lib.hid hd
  have HF := Lib.hid hF
  have HFB := Lib.hid (And.intro hFk hFb)
  have HN := Lib.hid hN
  have HS := Lib.hid hs
  have HNL := Lib.hid hn
  have HFit := Lib.hid hf
  have HBW := Lib.hid hbw
  have HK := Lib.hid hk
  have HKL := Lib.hid hkl
  have hDl := lt_of_heap hd.hD
  have hFl := lt_of_heap hF
  obtain ⟨g, lc, rfl, hcap, hgl, hlog⟩ := log_cell hd.hL hpos
  have HLOG := Lib.hid hlog
  clear hlog
  have hn1 : n ≤ 1000000 := by have := hf.1; omega
  have q1 : n ≤ lc := by omega
  have q2 : (0 : Int) ≤ (n : Int) := by omega
  have q3 : (n : Int) ≤ (lc : Int) := by omega
  clear hd hF hFk hFb hN hs hn hf hbw hk hkl hcap
  go_enter Tryd.func44, Tryd.ntmps44
  go_wp2_with fail
  refine (new_abs d.N _ HN.out.1 HN.out.2).mono ?_
  rintro e w1 ⟨rfl, hb1, hz1, hm0, hm1, hC⟩
  have c1' : w1.cell? ⟨D, 1, none⟩ = some (.map (some F)) := (hb1.cell (p := ⟨D, 1, none⟩) hDl).trans c1
  have hF1 := (hb1.block F hFl).trans HF.out
  have c3' : w1.cell? ⟨D, 3, none⟩ = some (.slice (some ⟨g, 0, none⟩) d.log.length lc) := (hb1.cell (p := ⟨D, 3, none⟩) hDl).trans c3
  have HC1 := Lib.hid hC
  have HB1 := Lib.hid hb1
  have HM1 := Lib.hid hm1
  have HZ1 := Lib.hid hz1
  clear hC hb1 hm0 hm1 hz1 c0 c1 c3
  go_wp2_with fail
  refine (clone_abs F esF cF _ hF1).mono ?_
  rintro e w2 ⟨rfl, hb2, hz2, hm2⟩
  have hs2 : w1.heap.size = w.heap.size + 3 := HZ1.out
  have hC2 := (hb2.block (w.heap.size + 2) (by omega)).trans HC1.out
  have c5 := cell_of (i := 1) hC2 rfl
  have f5 := free_of (i := 1) hC2
  have c6 : w2.cell? ⟨D, 3, none⟩ = some (.slice (some ⟨g, 0, none⟩) d.log.length lc) := (hb2.cell (p := ⟨D, 3, none⟩) (show D < w1.heap.size by omega)).trans c3'
  have n1 : ¬ D = w.heap.size + 2 := by omega
  have n2 : ¬ w.heap.size + 2 = D := by omega
  have n3 : w.heap.size + 2 < w2.heap.size := by omega
  have HC2 := Lib.hid hC2
  have HM2 := Lib.hid hm2
  have HB2 := Lib.hid hb2
  have HZ2 := Lib.hid hz2
  have HS2 := Lib.hid hs2
  clear hC2 hm2 hb2 hz2 hs2 c1' c3'
  go_wp2_with fail
  go_loopw [36] (fun i wr => LrR w d safe keep n i wr) (fun i _ => n - (intOf i).toNat)
  case atStart =>
    have e := HS2.out
    refine ⟨0, rfl, ⟨Nat.zero_le _, ?_, ?_, ?_, ?_⟩⟩
    · simp [World.setCell, Array.getElem?_modify, HC2.out, e]
    · refine ⟨esF, cF, ?_, HFB.out.1, fun k => ?_⟩
      · have h := HM2.out
        rw [e] at h
        simp [World.setCell, Array.getElem?_modify, h]
      · exact (HFB.out.2 k).below (((HB1.out.trans (HB2.out.mono (by omega))).setCell (by simp) _))
    · exact ((HB1.out.trans (HB2.out.mono (by omega))).setCell (by simp) _)
    · have h2 := HZ2.out
      have : (w2.setCell ⟨w.heap.size + 2, 1, none⟩ (.map (some w1.heap.size))).heap.size = w2.heap.size := by simp [World.setCell]
      omega
  case round =>
    obtain ⟨k, rfl, hL⟩ := hrel
    have hkn := hL.kn
    have LL := Lib.hid hL
    clear hL
    by_cases hlt : k < n
    · have hkl : k < d.log.length := by have := HNL.out; omega
      obtain ⟨v, hbv, hk0, hk1⟩ := HLOG.out k hkl
      have hB := LL.out.hb
      have k0 : wr.cell? ⟨g, k * 2, none⟩ = some (.int .i64 d.log[k].1) := (hB.cell (p := ⟨g, k * 2, none⟩) hgl).trans hk0
      have k1 : wr.cell? ⟨g, k * 2 + 1, none⟩ = some v := (hB.cell (p := ⟨g, k * 2 + 1, none⟩) hgl).trans hk1
      obtain ⟨va, vc, rfl⟩ := own_slice hbv.2
      have HBV := Lib.hid hbv
      have HLK := Lib.hid (show d.log.getD k (0, []) = (d.log[k].1, d.log[k].2) from by simp [List.getD_eq_getElem?_getD, hkl])
      generalize d.log[k].2 = lb at *
      generalize d.log[k].1 = ls at *
      clear hbv hk0 hk1 hB
      have hz := LL.out.hz
      have q4 : (k : Int) < (n : Int) := by omega
      have q5 : decide (k < n) = true := decide_eq_true hlt
      have hC3 := LL.out.hC
      have d1 := cell_al (.cells #[.int .i64 ls, .slice va lb.length vc] 97) (cell_of (i := 1) hC3 rfl)
      have b0 : (wr.alloc (.cells #[.int .i64 ls, .slice va lb.length vc] 97)).cell? ⟨wr.heap.size, 0, none⟩ = some (.int .i64 ls) := by simp
      have b1 : (wr.alloc (.cells #[.int .i64 ls, .slice va lb.length vc] 97)).cell? ⟨wr.heap.size, 1, none⟩ = some (.slice va lb.length vc) := by simp
      obtain ⟨es, c, hFc, hki, hFv⟩ := LL.out.hF
      have dm : (wr.alloc (.cells #[.int .i64 ls, .slice va lb.length vc] 97)).heap[w.heap.size + 3]? = some (.map es c) := ((World.grownBy_alloc wr _ none).block _ (lt_of_heap hFc) (by simp)).trans hFc
      have HKI := Lib.hid hki
      have HFC := Lib.hid hFc
      have HFV := Lib.hid hFv
      have HC3 := Lib.hid hC3
      have n4 : w.heap.size + 3 < wr.heap.size := by omega
      have n5 : w.heap.size + 2 < wr.heap.size := by omega
      clear hC3 hFc hki hFv
      by_cases h1 : k < safe
      · have t1 : decide (k < safe) = true := decide_eq_true h1
        have t2 : decide ((k : Int) < (safe : Int)) = true := decide_eq_true (by omega)
        have HKP := Lib.hid (show kept safe keep k = true by simp [kept, h1])
        go_wp2_with fail
        refine Go.Proofs.YtcjhligknhpadaaDoorW.PrintLast.start_ (n := 9) (S := fun v => v.cell? ⟨w.heap.size + 2, 1, none⟩ = some (.map (some (w.heap.size + 3))) ∧ v.cell? ⟨wr.heap.size, 0, none⟩ = some (.int .i64 ls) ∧ v.cell? ⟨wr.heap.size, 1, none⟩ = some (.slice va lb.length vc) ∧ v.heap[w.heap.size + 3]? = some (.map es c)) (ds := [8]) #[false, false, false, false, false, false, false, false, false] (by kernel_rfl) rfl rfl ⟨d1, b0, b1, dm⟩ (fun hHeld => ?_)
        refine Go.Proofs.YtcjhligknhpadaaDoorW.PrintLast.pure_ (i := 0) (N := some 60) (v := ?_) (a' := ?_) #[true, false, false, false, false, false, false, false, false] rfl rfl (by kernel_rfl) (fun _ _ _ h => h) (Or.inl ⟨by rfl, ?_⟩) ?_ ?_
        rotate_left
        · intro w'
          go_simp
          with_reducible rfl
        rotate_left
        · simp only [Act.put, List.setIfInBounds_toArray, List.set_cons_zero, List.set_cons_succ, Go.Proofs.YtcjhligknhpadaaDoorW.PrintLast.i64_w, Go.Proofs.YtcjhligknhpadaaDoorW.PrintLast.i32_w]
          rfl
        refine Go.Proofs.YtcjhligknhpadaaDoorW.PrintLast.pure_ (i := 1) (N := some 61) (v := ?_) (a' := ?_) #[true, true, false, false, false, false, false, false, false] rfl rfl (by kernel_rfl) (fun _ _ _ h => h) (Or.inl ⟨by rfl, ?_⟩) ?_ ?_
        rotate_left
        · intro w'
          go_simp
          with_reducible rfl
        rotate_left
        · simp only [Act.put, List.setIfInBounds_toArray, List.set_cons_zero, List.set_cons_succ, Go.Proofs.YtcjhligknhpadaaDoorW.PrintLast.i64_w, Go.Proofs.YtcjhligknhpadaaDoorW.PrintLast.i32_w]
          rfl
        refine Go.Proofs.YtcjhligknhpadaaDoorW.PrintLast.pure_ (i := 2) (N := some 62) (v := ?_) (a' := ?_) #[true, true, true, false, false, false, false, false, false] rfl rfl (by kernel_rfl) (fun _ _ _ h => h) (Or.inl ⟨by rfl, ?_⟩) ?_ ?_
        rotate_left
        · intro w'
          go_simp
          with_reducible rfl
        rotate_left
        · simp only [Act.put, List.setIfInBounds_toArray, List.set_cons_zero, List.set_cons_succ, Go.Proofs.YtcjhligknhpadaaDoorW.PrintLast.i64_w, Go.Proofs.YtcjhligknhpadaaDoorW.PrintLast.i32_w]
          rfl
        refine Go.Proofs.YtcjhligknhpadaaDoorW.PrintLast.take_ (i := 3) (N := some 63) (v := ?_) (a' := ?_) #[true, true, true, true, false, false, false, false, false] rfl rfl (by kernel_rfl) (fun _ _ _ h => h) (Or.inl ⟨by rfl, ?_⟩) hHeld ?_ ?_
        rotate_left
        · rintro w' ⟨s0, s1, s2, s3⟩
          go_simp
          with_reducible rfl
        rotate_left
        · simp only [Act.put, List.setIfInBounds_toArray, List.set_cons_zero, List.set_cons_succ, Go.Proofs.YtcjhligknhpadaaDoorW.PrintLast.i64_w, Go.Proofs.YtcjhligknhpadaaDoorW.PrintLast.i32_w]
          rfl
        refine Go.Proofs.YtcjhligknhpadaaDoorW.PrintLast.pure_ (i := 4) (N := some 64) (v := ?_) (a' := ?_) #[true, true, true, true, true, false, false, false, false] rfl rfl (by kernel_rfl) (fun _ _ _ h => h) (Or.inl ⟨by rfl, ?_⟩) ?_ ?_
        rotate_left
        · intro w'
          go_simp
          with_reducible rfl
        rotate_left
        · simp only [Act.put, List.setIfInBounds_toArray, List.set_cons_zero, List.set_cons_succ, Go.Proofs.YtcjhligknhpadaaDoorW.PrintLast.i64_w, Go.Proofs.YtcjhligknhpadaaDoorW.PrintLast.i32_w]
          rfl
        refine Go.Proofs.YtcjhligknhpadaaDoorW.PrintLast.take_ (i := 5) (N := some 65) (v := ?_) (a' := ?_) #[true, true, true, true, true, true, false, false, false] rfl rfl (by kernel_rfl) (fun _ _ _ h => h) (Or.inl ⟨by rfl, ?_⟩) hHeld ?_ ?_
        rotate_left
        · rintro w' ⟨s0, s1, s2, s3⟩
          go_simp
          with_reducible rfl
        rotate_left
        · simp only [Act.put, List.setIfInBounds_toArray, List.set_cons_zero, List.set_cons_succ, Go.Proofs.YtcjhligknhpadaaDoorW.PrintLast.i64_w, Go.Proofs.YtcjhligknhpadaaDoorW.PrintLast.i32_w]
          rfl
        refine Go.Proofs.YtcjhligknhpadaaDoorW.PrintLast.pure_ (i := 6) (N := some 66) (v := ?_) (a' := ?_) #[true, true, true, true, true, true, true, false, false] rfl rfl (by kernel_rfl) (fun _ _ _ h => h) (Or.inl ⟨by rfl, ?_⟩) ?_ ?_
        rotate_left
        · intro w'
          go_simp
          with_reducible rfl
        rotate_left
        · simp only [Act.put, List.setIfInBounds_toArray, List.set_cons_zero, List.set_cons_succ, Go.Proofs.YtcjhligknhpadaaDoorW.PrintLast.i64_w, Go.Proofs.YtcjhligknhpadaaDoorW.PrintLast.i32_w]
          rfl
        refine Go.Proofs.YtcjhligknhpadaaDoorW.PrintLast.take_ (i := 7) (N := some 67) (v := ?_) (a' := ?_) #[true, true, true, true, true, true, true, true, false] rfl rfl (by kernel_rfl) (fun _ _ _ h => h) (Or.inl ⟨by rfl, ?_⟩) hHeld ?_ ?_
        rotate_left
        · rintro w' ⟨s0, s1, s2, s3⟩
          go_simp
          with_reducible rfl
        rotate_left
        · simp only [Act.put, List.setIfInBounds_toArray, List.set_cons_zero, List.set_cons_succ, Go.Proofs.YtcjhligknhpadaaDoorW.PrintLast.i64_w, Go.Proofs.YtcjhligknhpadaaDoorW.PrintLast.i32_w]
          rfl
        refine Go.Proofs.YtcjhligknhpadaaDoorW.PrintLast.last_ (i := 8) (N := none) #[true, true, true, true, true, true, true, true, true] rfl rfl (by kernel_rfl) (by decide) (fun K hK => ?_)
        obtain ⟨es', c', hrun, hk', hm'⟩ := run_mapUpdate (w := (wr.alloc (.cells #[.int .i64 ls, .slice va lb.length vc] 97)).drew) Tryd.underlying78 Tryd.underlying3 hHeld.2.2.2 HKI.out ls (.slice va lb.length vc)
        refine Go.Proofs.YtcjhligknhpadaaDoorW.PrintLast.skip_ (w1 := setMap (wr.alloc (.cells #[.int .i64 ls, .slice va lb.length vc] 97)).drew (w.heap.size + 3) (.map es' c')) (by rfl) rfl (by go_simp) ?_
        refine hK.out _ _ ?_
        clear hK K
        refine Go.Proofs.YtcjhligknhpadaaDoorW.PrintLast.done_ (by kernel_rfl) ?_
        go_wp2_with fail
        go_roundw
        case rel => exact ⟨k + 1, by go_num, LL.out.take hlt HKP.out HLK.out HBV.out HFC.out HFV.out hk' hm'⟩
        case measure => simp [intOf]; omega
      · have t1 : decide (k < safe) = false := decide_eq_false h1
        have t2 : decide ((k : Int) < (safe : Int)) = false := decide_eq_false (by omega)
        have ej : IntKind.i64.wrap ((k : Int) - (safe : Int)) = ((k - safe : Nat) : Int) := by
          have := HFit.out.1
          have := HNL.out
          rw [IntWalk.i64_in _ (by omega)]
          omega
        obtain ⟨j, hj⟩ : ∃ j, k - safe = j := ⟨_, rfl⟩
        rw [hj] at ej
        by_cases h2 : j < keep.length
        · have t3 : decide (j < keep.length) = true := decide_eq_true h2
          have t4 : decide ((j : Int) < (keep.length : Int)) = true := decide_eq_true (by omega)
          have t5 : (0 : Int) ≤ (j : Int) := by omega
          have t6 : (j : Int) < (keep.length : Int) := by omega
          obtain ⟨a, ha, hka⟩ := HK.out j h2
          subst ha
          have hka1 : wr.cell? (a.add j) = some (.bool (keep.getD j false)) := by
            have hb := LL.out.hb
            have hlt2 := World.block_lt_of_cell? w _ hka
            exact (hb.cell (p := a.add j) hlt2).trans hka
          have hka2 := cell_al (.cells #[.int .i64 ls, .slice va lb.length vc] 97) hka1
          clear hka hka1
          cases hkb : keep.getD j false with
          | true =>
            rw [hkb] at hka2
            have HKP := Lib.hid (show kept safe keep k = true by simp only [kept, hj, hkb, t3]; simp)
            go_wp2_with fail
            refine Go.Proofs.YtcjhligknhpadaaDoorW.PrintLast.start_ (n := 9) (S := fun v => v.cell? ⟨w.heap.size + 2, 1, none⟩ = some (.map (some (w.heap.size + 3))) ∧ v.cell? ⟨wr.heap.size, 0, none⟩ = some (.int .i64 ls) ∧ v.cell? ⟨wr.heap.size, 1, none⟩ = some (.slice va lb.length vc) ∧ v.heap[w.heap.size + 3]? = some (.map es c)) (ds := [8]) #[false, false, false, false, false, false, false, false, false] (by kernel_rfl) rfl rfl ⟨d1, b0, b1, dm⟩ (fun hHeld => ?_)
            refine Go.Proofs.YtcjhligknhpadaaDoorW.PrintLast.pure_ (i := 0) (N := some 60) (v := ?_) (a' := ?_) #[true, false, false, false, false, false, false, false, false] rfl rfl (by kernel_rfl) (fun _ _ _ h => h) (Or.inl ⟨by rfl, ?_⟩) ?_ ?_
            rotate_left
            · intro w'
              go_simp
              with_reducible rfl
            rotate_left
            · simp only [Act.put, List.setIfInBounds_toArray, List.set_cons_zero, List.set_cons_succ, Go.Proofs.YtcjhligknhpadaaDoorW.PrintLast.i64_w, Go.Proofs.YtcjhligknhpadaaDoorW.PrintLast.i32_w]
              rfl
            refine Go.Proofs.YtcjhligknhpadaaDoorW.PrintLast.pure_ (i := 1) (N := some 61) (v := ?_) (a' := ?_) #[true, true, false, false, false, false, false, false, false] rfl rfl (by kernel_rfl) (fun _ _ _ h => h) (Or.inl ⟨by rfl, ?_⟩) ?_ ?_
            rotate_left
            · intro w'
              go_simp
              with_reducible rfl
            rotate_left
            · simp only [Act.put, List.setIfInBounds_toArray, List.set_cons_zero, List.set_cons_succ, Go.Proofs.YtcjhligknhpadaaDoorW.PrintLast.i64_w, Go.Proofs.YtcjhligknhpadaaDoorW.PrintLast.i32_w]
              rfl
            refine Go.Proofs.YtcjhligknhpadaaDoorW.PrintLast.pure_ (i := 2) (N := some 62) (v := ?_) (a' := ?_) #[true, true, true, false, false, false, false, false, false] rfl rfl (by kernel_rfl) (fun _ _ _ h => h) (Or.inl ⟨by rfl, ?_⟩) ?_ ?_
            rotate_left
            · intro w'
              go_simp
              with_reducible rfl
            rotate_left
            · simp only [Act.put, List.setIfInBounds_toArray, List.set_cons_zero, List.set_cons_succ, Go.Proofs.YtcjhligknhpadaaDoorW.PrintLast.i64_w, Go.Proofs.YtcjhligknhpadaaDoorW.PrintLast.i32_w]
              rfl
            refine Go.Proofs.YtcjhligknhpadaaDoorW.PrintLast.take_ (i := 3) (N := some 63) (v := ?_) (a' := ?_) #[true, true, true, true, false, false, false, false, false] rfl rfl (by kernel_rfl) (fun _ _ _ h => h) (Or.inl ⟨by rfl, ?_⟩) hHeld ?_ ?_
            rotate_left
            · rintro w' ⟨s0, s1, s2, s3⟩
              go_simp
              with_reducible rfl
            rotate_left
            · simp only [Act.put, List.setIfInBounds_toArray, List.set_cons_zero, List.set_cons_succ, Go.Proofs.YtcjhligknhpadaaDoorW.PrintLast.i64_w, Go.Proofs.YtcjhligknhpadaaDoorW.PrintLast.i32_w]
              rfl
            refine Go.Proofs.YtcjhligknhpadaaDoorW.PrintLast.pure_ (i := 4) (N := some 64) (v := ?_) (a' := ?_) #[true, true, true, true, true, false, false, false, false] rfl rfl (by kernel_rfl) (fun _ _ _ h => h) (Or.inl ⟨by rfl, ?_⟩) ?_ ?_
            rotate_left
            · intro w'
              go_simp
              with_reducible rfl
            rotate_left
            · simp only [Act.put, List.setIfInBounds_toArray, List.set_cons_zero, List.set_cons_succ, Go.Proofs.YtcjhligknhpadaaDoorW.PrintLast.i64_w, Go.Proofs.YtcjhligknhpadaaDoorW.PrintLast.i32_w]
              rfl
            refine Go.Proofs.YtcjhligknhpadaaDoorW.PrintLast.take_ (i := 5) (N := some 65) (v := ?_) (a' := ?_) #[true, true, true, true, true, true, false, false, false] rfl rfl (by kernel_rfl) (fun _ _ _ h => h) (Or.inl ⟨by rfl, ?_⟩) hHeld ?_ ?_
            rotate_left
            · rintro w' ⟨s0, s1, s2, s3⟩
              go_simp
              with_reducible rfl
            rotate_left
            · simp only [Act.put, List.setIfInBounds_toArray, List.set_cons_zero, List.set_cons_succ, Go.Proofs.YtcjhligknhpadaaDoorW.PrintLast.i64_w, Go.Proofs.YtcjhligknhpadaaDoorW.PrintLast.i32_w]
              rfl
            refine Go.Proofs.YtcjhligknhpadaaDoorW.PrintLast.pure_ (i := 6) (N := some 66) (v := ?_) (a' := ?_) #[true, true, true, true, true, true, true, false, false] rfl rfl (by kernel_rfl) (fun _ _ _ h => h) (Or.inl ⟨by rfl, ?_⟩) ?_ ?_
            rotate_left
            · intro w'
              go_simp
              with_reducible rfl
            rotate_left
            · simp only [Act.put, List.setIfInBounds_toArray, List.set_cons_zero, List.set_cons_succ, Go.Proofs.YtcjhligknhpadaaDoorW.PrintLast.i64_w, Go.Proofs.YtcjhligknhpadaaDoorW.PrintLast.i32_w]
              rfl
            refine Go.Proofs.YtcjhligknhpadaaDoorW.PrintLast.take_ (i := 7) (N := some 67) (v := ?_) (a' := ?_) #[true, true, true, true, true, true, true, true, false] rfl rfl (by kernel_rfl) (fun _ _ _ h => h) (Or.inl ⟨by rfl, ?_⟩) hHeld ?_ ?_
            rotate_left
            · rintro w' ⟨s0, s1, s2, s3⟩
              go_simp
              with_reducible rfl
            rotate_left
            · simp only [Act.put, List.setIfInBounds_toArray, List.set_cons_zero, List.set_cons_succ, Go.Proofs.YtcjhligknhpadaaDoorW.PrintLast.i64_w, Go.Proofs.YtcjhligknhpadaaDoorW.PrintLast.i32_w]
              rfl
            refine Go.Proofs.YtcjhligknhpadaaDoorW.PrintLast.last_ (i := 8) (N := none) #[true, true, true, true, true, true, true, true, true] rfl rfl (by kernel_rfl) (by decide) (fun K hK => ?_)
            obtain ⟨es', c', hrun, hk', hm'⟩ := run_mapUpdate (w := (wr.alloc (.cells #[.int .i64 ls, .slice va lb.length vc] 97)).drew) Tryd.underlying78 Tryd.underlying3 hHeld.2.2.2 HKI.out ls (.slice va lb.length vc)
            refine Go.Proofs.YtcjhligknhpadaaDoorW.PrintLast.skip_ (w1 := setMap (wr.alloc (.cells #[.int .i64 ls, .slice va lb.length vc] 97)).drew (w.heap.size + 3) (.map es' c')) (by rfl) rfl (by go_simp) ?_
            refine hK.out _ _ ?_
            clear hK K
            refine Go.Proofs.YtcjhligknhpadaaDoorW.PrintLast.done_ (by kernel_rfl) ?_
            go_wp2_with fail
            go_roundw
            case rel => exact ⟨k + 1, by go_num, LL.out.take hlt HKP.out HLK.out HBV.out HFC.out HFV.out hk' hm'⟩
            case measure => simp [intOf]; omega
          | false =>
            rw [hkb] at hka2
            have HKP := Lib.hid (show kept safe keep k = false by simp only [kept, hj, hkb, t1]; simp)
            go_wp2_with fail
            go_roundw
            case rel => exact ⟨k + 1, by go_num, LL.out.skip hlt HKP.out _⟩
            case measure => simp [intOf]; omega
        · have t3 : decide (j < keep.length) = false := decide_eq_false h2
          have t4 : decide ((j : Int) < (keep.length : Int)) = false := decide_eq_false (by omega)
          have HKP := Lib.hid (show kept safe keep k = false by simp only [kept, hj, t1, t3]; rfl)
          go_wp2_with fail
          go_roundw
          case rel => exact ⟨k + 1, by go_num, LL.out.skip hlt HKP.out _⟩
          case measure => simp [intOf]; omega
    · have hC3 := LL.out.hC
      have e1 := cell_of (i := 1) hC3 rfl
      obtain ⟨es, c, hFc, hki, hFv⟩ := LL.out.hF
      have hz := LL.out.hz
      have HC3 := Lib.hid hC3
      have HKV := Lib.hid (And.intro hki hFv)
      have HFC := Lib.hid hFc
      have ek : k = n := by omega
      clear hC3 hki hFv
      go_wp2_with fail
      refine (clone_abs (w.heap.size + 3) es c _ hFc).mono ?_
      rintro e w3 ⟨rfl, hb3, hz3, hm3⟩
      have hC4 := (hb3.block (w.heap.size + 2) (by omega)).trans HC3.out
      have g2 := free_of (i := 2) hC4
      have g3 := cell_of (i := 2) hC4 rfl
      have HC4 := Lib.hid hC4
      have HB3 := Lib.hid hb3
      have HM3 := Lib.hid hm3
      clear hC4 hb3 hm3 hFc
      go_wp2_with fail
      go_ret
      subst ek
      obtain ⟨r1, r2⟩ := Lr.done HBW.out LL.out HKV.out HB3.out HM3.out
      exact ⟨_, rfl, r1, r2⟩
set_option maxHeartbeats 2000000 in
set_option maxRecDepth 100000 in
theorem left_none2 [av : Av] (base bs : Nat) (w : World) (D : Nat) (d : Dsk) (safe n : Nat) (KA : Option Addr) (kc : Nat) (keep : List Bool) (h : IsDk base w D d) (hf : d.Fit) (hbw : bs ≤ w.heap.size) (hN : 1 ≤ d.N ∧ d.N ≤ 4096) (hs : safe ≤ n) (hn : n ≤ d.log.length) (hpos : d.log.length = 0)
    (hkl : keep.length ≤ 9223372036854775807) (hk : ∀ j, j < keep.length → ∃ a, KA = some a ∧ w.cell? (a.add j) = some (.bool (keep.getD j false))) :
    Calls Tryd.prog 44 #[.pointer (some ⟨D, 0, none⟩), .int .i64 safe, .int .i64 n, .slice KA keep.length kc] w fun e w' => ∃ C, e = .returned (.pointer (some ⟨C, 0, none⟩)) ∧ IsDk bs w' C (leftD d safe n keep) ∧ Below w.heap.size w w' := by
  obtain ⟨F, M, lv, sv, hd⟩ := h
  obtain ⟨c0, c1, _, c3, _⟩ := hd.cells
  obtain ⟨esF, cF, hF, hFk, hFb⟩ := hd.hF
  have HD := Lib.hid hd
  have HF := Lib.hid hF
  have HFB := Lib.hid (And.intro hFk hFb)
  have HN := Lib.hid hN
  have HS := Lib.hid hs
  have HNL := Lib.hid hn
  have HFit := Lib.hid hf
  have HBW := Lib.hid hbw
  have HK := Lib.hid hk
  have HKL := Lib.hid hkl
  have hDl := lt_of_heap hd.hD
  have hFl := lt_of_heap hF
  obtain ⟨vs, l1, l2, l3⟩ := hd.hL
  obtain ⟨la, lc, rfl⟩ := own_slice l3
  have hcap : d.log.length ≤ lc := by omega
  clear l1 l2 l3
  have hn1 : n ≤ 1000000 := by have := hf.1; omega
  have q1 : n ≤ lc := by omega
  have q2 : (0 : Int) ≤ (n : Int) := by omega
  have q3 : (n : Int) ≤ (lc : Int) := by omega
  clear hd hF hFk hFb hN hs hn hf hbw hk hkl hcap
  go_enter Tryd.func44, Tryd.ntmps44
  go_wp2_with fail
  refine (new_abs d.N _ HN.out.1 HN.out.2).mono ?_
  rintro e w1 ⟨rfl, hb1, hz1, hm0, hm1, hC⟩
  have c1' : w1.cell? ⟨D, 1, none⟩ = some (.map (some F)) := (hb1.cell (p := ⟨D, 1, none⟩) hDl).trans c1
  have hF1 := (hb1.block F hFl).trans HF.out
  have c3' : w1.cell? ⟨D, 3, none⟩ = some (.slice la d.log.length lc) := (hb1.cell (p := ⟨D, 3, none⟩) hDl).trans c3
  have HC1 := Lib.hid hC
  have HB1 := Lib.hid hb1
  have HM1 := Lib.hid hm1
  have HZ1 := Lib.hid hz1
  clear hC hb1 hm0 hm1 hz1 c0 c1 c3
  go_wp2_with fail
  refine (clone_abs F esF cF _ hF1).mono ?_
  rintro e w2 ⟨rfl, hb2, hz2, hm2⟩
  have hs2 : w1.heap.size = w.heap.size + 3 := HZ1.out
  have hC2 := (hb2.block (w.heap.size + 2) (by omega)).trans HC1.out
  have c5 := cell_of (i := 1) hC2 rfl
  have f5 := free_of (i := 1) hC2
  have c6 : w2.cell? ⟨D, 3, none⟩ = some (.slice la d.log.length lc) := (hb2.cell (p := ⟨D, 3, none⟩) (show D < w1.heap.size by omega)).trans c3'
  have n1 : ¬ D = w.heap.size + 2 := by omega
  have n2 : ¬ w.heap.size + 2 = D := by omega
  have n3 : w.heap.size + 2 < w2.heap.size := by omega
  have HC2 := Lib.hid hC2
  have HM2 := Lib.hid hm2
  have HB2 := Lib.hid hb2
  have HZ2 := Lib.hid hz2
  have HS2 := Lib.hid hs2
  clear hC2 hm2 hb2 hz2 hs2 c1' c3'
  go_wp2_with fail
  go_loopw [36] (fun i wr => LrR w d safe keep n i wr) (fun i _ => n - (intOf i).toNat)
  case atStart =>
    have e := HS2.out
    refine ⟨0, rfl, ⟨Nat.zero_le _, ?_, ?_, ?_, ?_⟩⟩
    · simp [World.setCell, Array.getElem?_modify, HC2.out, e]
    · refine ⟨esF, cF, ?_, HFB.out.1, fun k => ?_⟩
      · have h := HM2.out
        rw [e] at h
        simp [World.setCell, Array.getElem?_modify, h]
      · exact (HFB.out.2 k).below (((HB1.out.trans (HB2.out.mono (by omega))).setCell (by simp) _))
    · exact ((HB1.out.trans (HB2.out.mono (by omega))).setCell (by simp) _)
    · have h2 := HZ2.out
      have : (w2.setCell ⟨w.heap.size + 2, 1, none⟩ (.map (some w1.heap.size))).heap.size = w2.heap.size := by simp [World.setCell]
      omega
  case round =>
    obtain ⟨k, rfl, hL⟩ := hrel
    have hkn := hL.kn
    have LL := Lib.hid hL
    clear hL
    by_cases hlt : k < n
    · exfalso; have := HNL.out; omega
    · have hC3 := LL.out.hC
      have e1 := cell_of (i := 1) hC3 rfl
      obtain ⟨es, c, hFc, hki, hFv⟩ := LL.out.hF
      have hz := LL.out.hz
      have HC3 := Lib.hid hC3
      have HKV := Lib.hid (And.intro hki hFv)
      have HFC := Lib.hid hFc
      have ek : k = n := by omega
      clear hC3 hki hFv
      go_wp2_with fail
      refine (clone_abs (w.heap.size + 3) es c _ hFc).mono ?_
      rintro e w3 ⟨rfl, hb3, hz3, hm3⟩
      have hC4 := (hb3.block (w.heap.size + 2) (by omega)).trans HC3.out
      have g2 := free_of (i := 2) hC4
      have g3 := cell_of (i := 2) hC4 rfl
      have HC4 := Lib.hid hC4
      have HB3 := Lib.hid hb3
      have HM3 := Lib.hid hm3
      clear hC4 hb3 hm3 hFc
      go_wp2_with fail
      go_ret
      subst ek
      obtain ⟨r1, r2⟩ := Lr.done HBW.out LL.out HKV.out HB3.out HM3.out
      exact ⟨_, rfl, r1, r2⟩
theorem left_any2 [av : Av] (base bs : Nat) (w : World) (D : Nat) (d : Dsk) (safe n : Nat) (KA : Option Addr) (kc : Nat) (keep : List Bool) (h : IsDk base w D d) (hf : d.Fit) (hbw : bs ≤ w.heap.size) (hN : 1 ≤ d.N ∧ d.N ≤ 4096) (hs : safe ≤ n) (hn : n ≤ d.log.length)
    (hkl : keep.length ≤ 9223372036854775807) (hk : ∀ j, j < keep.length → ∃ a, KA = some a ∧ w.cell? (a.add j) = some (.bool (keep.getD j false))) :
    Calls Tryd.prog 44 #[.pointer (some ⟨D, 0, none⟩), .int .i64 safe, .int .i64 n, .slice KA keep.length kc] w fun e w' => ∃ C, e = .returned (.pointer (some ⟨C, 0, none⟩)) ∧ IsDk bs w' C (leftD d safe n keep) ∧ Below w.heap.size w w' := by
  by_cases hp : 0 < d.log.length
  · exact left_some2 base bs w D d safe n KA kc keep h hf hbw hN hs hn hp hkl hk
  · exact left_none2 base bs w D d safe n KA kc keep h hf hbw hN hs hn (by omega) hkl hk
set_option maxHeartbeats 1000000 in
set_option maxRecDepth 100000 in
theorem cut_any2 [av : Av] (base bs : Nat) (w : World) (D : Nat) (d : Dsk) (KA : Option Addr) (kc : Nat) (keep : List Bool) (h : IsDk base w D d) (hf : d.Fit) (hbw : bs ≤ w.heap.size) (hN : 1 ≤ d.N ∧ d.N ≤ 4096)
    (hkl : keep.length ≤ 9223372036854775807) (hk : ∀ j, j < keep.length → ∃ a, KA = some a ∧ w.cell? (a.add j) = some (.bool (keep.getD j false))) :
    Calls Tryd.prog 25 #[.pointer (some ⟨D, 0, none⟩), .slice KA keep.length kc] w fun e w' => ∃ C, e = .returned (.pointer (some ⟨C, 0, none⟩)) ∧ IsDk bs w' C (leftD d (safeOf d) d.log.length keep) ∧ Below w.heap.size w w' := by
  obtain ⟨hs, hp⟩ := pend_safe d hf
  have HI := Lib.hid h
  have HFit := Lib.hid hf
  obtain ⟨F, M, lv, sv, hd⟩ := h
  obtain ⟨vs, l1, l2, l3⟩ := hd.hL
  obtain ⟨la, lc, rfl⟩ := own_slice l3
  obtain ⟨_, _, _, c3, _⟩ := hd.cells
  have HDL := Lib.hid (lt_of_heap hd.hD)
  have HLEFT := Lib.hid (show ∀ w2, Below w.heap.size w w2 → Calls Tryd.prog 44 #[.pointer (some ⟨D, 0, none⟩), .int .i64 (safeOf d), .int .i64 d.log.length, .slice KA keep.length kc] w2 fun e w' => ∃ C, e = .returned (.pointer (some ⟨C, 0, none⟩)) ∧ IsDk bs w' C (leftD d (safeOf d) d.log.length keep) ∧ Below w.heap.size w w' from fun w2 hb =>
    (left_any2 base bs w2 D d (safeOf d) d.log.length KA kc keep (HI.out.below hb) hf (Nat.le_trans hbw hb.size) hN hs (Nat.le_refl _) hkl (fun j hj => by
      obtain ⟨a, e, hc⟩ := hk j hj
      exact ⟨a, e, (hb.cell (p := a.add j) (World.block_lt_of_cell? w _ hc)).trans hc⟩)).mono fun e w' ⟨C, q1, q2, q3⟩ => ⟨C, q1, q2, hb.trans (q3.mono hb.size)⟩)
  have hm := hf.1
  clear l1 l2 l3 hd hkl hk hbw hN hf
  have HPE := Lib.hid (show pend d = (d.log.length : Int) - safeOf d from hp)
  generalize hpd : (d.log.length : Int) - safeOf d = p at HPE
  generalize safeOf d = sf at *
  have e1 : IntKind.i64.wrap ((d.log.length : Int) - p) = (sf : Int) := by rw [IntWalk.i64_in _ (by omega)]; omega
  generalize d.log.length = m at *
  clear hs hp hpd hm
  go_enter Tryd.func25, Tryd.ntmps25
  go_wp2_with fail
  refine Go.Proofs.YtcjhligknhpadaaDoorW.PrintLast.start_ (n := 17) (S := fun v => v.cell? ⟨D, 3, none⟩ = some (.slice la m lc)) (ds := [16]) #[false, false, false, false, false, false, false, false, false, false, false, false, false, false, false, false, false] (by kernel_rfl) rfl rfl c3 (fun hHeld => ?_)
  refine Go.Proofs.YtcjhligknhpadaaDoorW.PrintLast.pure_ (i := 0) (N := some 7) (v := ?_) (a' := ?_) #[true, false, false, false, false, false, false, false, false, false, false, false, false, false, false, false, false] rfl rfl (by kernel_rfl) (fun _ _ _ h => h) (Or.inl ⟨by rfl, ?_⟩) ?_ ?_
  rotate_left
  · intro w'
    go_simp
    with_reducible rfl
  rotate_left
  · simp only [Act.put, List.setIfInBounds_toArray, List.set_cons_zero, List.set_cons_succ, Go.Proofs.YtcjhligknhpadaaDoorW.PrintLast.i64_w, Go.Proofs.YtcjhligknhpadaaDoorW.PrintLast.i32_w]
    rfl
  refine Go.Proofs.YtcjhligknhpadaaDoorW.PrintLast.pure_ (i := 1) (N := some 8) (v := ?_) (a' := ?_) #[true, true, false, false, false, false, false, false, false, false, false, false, false, false, false, false, false] rfl rfl (by kernel_rfl) (fun _ _ _ h => h) (Or.inl ⟨by rfl, ?_⟩) ?_ ?_
  rotate_left
  · intro w'
    go_simp
    with_reducible rfl
  rotate_left
  · simp only [Act.put, List.setIfInBounds_toArray, List.set_cons_zero, List.set_cons_succ, Go.Proofs.YtcjhligknhpadaaDoorW.PrintLast.i64_w, Go.Proofs.YtcjhligknhpadaaDoorW.PrintLast.i32_w]
    rfl
  refine Go.Proofs.YtcjhligknhpadaaDoorW.PrintLast.pure_ (i := 2) (N := some 9) (v := ?_) (a' := ?_) #[true, true, true, false, false, false, false, false, false, false, false, false, false, false, false, false, false] rfl rfl (by kernel_rfl) (fun _ _ _ h => h) (Or.inl ⟨by rfl, ?_⟩) ?_ ?_
  rotate_left
  · intro w'
    go_simp
    with_reducible rfl
  rotate_left
  · simp only [Act.put, List.setIfInBounds_toArray, List.set_cons_zero, List.set_cons_succ, Go.Proofs.YtcjhligknhpadaaDoorW.PrintLast.i64_w, Go.Proofs.YtcjhligknhpadaaDoorW.PrintLast.i32_w]
    rfl
  refine Go.Proofs.YtcjhligknhpadaaDoorW.PrintLast.pure_ (i := 3) (N := some 10) (v := ?_) (a' := ?_) #[true, true, true, true, false, false, false, false, false, false, false, false, false, false, false, false, false] rfl rfl (by kernel_rfl) (fun _ _ _ h => h) (Or.inl ⟨by rfl, ?_⟩) ?_ ?_
  rotate_left
  · intro w'
    go_simp
    with_reducible rfl
  rotate_left
  · simp only [Act.put, List.setIfInBounds_toArray, List.set_cons_zero, List.set_cons_succ, Go.Proofs.YtcjhligknhpadaaDoorW.PrintLast.i64_w, Go.Proofs.YtcjhligknhpadaaDoorW.PrintLast.i32_w]
    rfl
  refine Go.Proofs.YtcjhligknhpadaaDoorW.PrintLast.take_ (i := 4) (N := some 11) (v := ?_) (a' := ?_) #[true, true, true, true, true, false, false, false, false, false, false, false, false, false, false, false, false] rfl rfl (by kernel_rfl) (fun _ _ _ h => h) (Or.inl ⟨by rfl, ?_⟩) hHeld ?_ ?_
  rotate_left
  · rintro w' s0
    go_simp
    with_reducible rfl
  rotate_left
  · simp only [Act.put, List.setIfInBounds_toArray, List.set_cons_zero, List.set_cons_succ, Go.Proofs.YtcjhligknhpadaaDoorW.PrintLast.i64_w, Go.Proofs.YtcjhligknhpadaaDoorW.PrintLast.i32_w]
    rfl
  refine Go.Proofs.YtcjhligknhpadaaDoorW.PrintLast.take_ (i := 5) (N := some 12) (v := ?_) (a' := ?_) #[true, true, true, true, true, true, false, false, false, false, false, false, false, false, false, false, false] rfl rfl (by kernel_rfl) (fun _ _ _ h => h) (Or.inl ⟨by rfl, ?_⟩) hHeld ?_ ?_
  rotate_left
  · rintro w' s0
    go_simp
    with_reducible rfl
  rotate_left
  · simp only [Act.put, List.setIfInBounds_toArray, List.set_cons_zero, List.set_cons_succ, Go.Proofs.YtcjhligknhpadaaDoorW.PrintLast.i64_w, Go.Proofs.YtcjhligknhpadaaDoorW.PrintLast.i32_w]
    rfl
  refine Go.Proofs.YtcjhligknhpadaaDoorW.PrintLast.pure_ (i := 6) (N := some 13) (v := ?_) (a' := ?_) #[true, true, true, true, true, true, true, false, false, false, false, false, false, false, false, false, false] rfl rfl (by kernel_rfl) (fun _ _ _ h => h) (Or.inl ⟨by rfl, ?_⟩) ?_ ?_
  rotate_left
  · intro w'
    go_simp
    with_reducible rfl
  rotate_left
  · simp only [Act.put, List.setIfInBounds_toArray, List.set_cons_zero, List.set_cons_succ, Go.Proofs.YtcjhligknhpadaaDoorW.PrintLast.i64_w, Go.Proofs.YtcjhligknhpadaaDoorW.PrintLast.i32_w]
    rfl
  refine Go.Proofs.YtcjhligknhpadaaDoorW.PrintLast.pure_ (i := 9) (N := some 16) (v := ?_) (a' := ?_) #[true, true, true, true, true, true, true, false, false, true, false, false, false, false, false, false, false] rfl rfl (by kernel_rfl) (fun _ _ _ h => h) (Or.inl ⟨by rfl, ?_⟩) ?_ ?_
  rotate_left
  · intro w'
    go_simp
    with_reducible rfl
  rotate_left
  · simp only [Act.put, List.setIfInBounds_toArray, List.set_cons_zero, List.set_cons_succ, Go.Proofs.YtcjhligknhpadaaDoorW.PrintLast.i64_w, Go.Proofs.YtcjhligknhpadaaDoorW.PrintLast.i32_w]
    rfl
  refine Go.Proofs.YtcjhligknhpadaaDoorW.PrintLast.pure_ (i := 10) (N := some 17) (v := ?_) (a' := ?_) #[true, true, true, true, true, true, true, false, false, true, true, false, false, false, false, false, false] rfl rfl (by kernel_rfl) (fun _ _ _ h => h) (Or.inl ⟨by rfl, ?_⟩) ?_ ?_
  rotate_left
  · intro w'
    go_simp
    with_reducible rfl
  rotate_left
  · simp only [Act.put, List.setIfInBounds_toArray, List.set_cons_zero, List.set_cons_succ, Go.Proofs.YtcjhligknhpadaaDoorW.PrintLast.i64_w, Go.Proofs.YtcjhligknhpadaaDoorW.PrintLast.i32_w]
    rfl
  refine Go.Proofs.YtcjhligknhpadaaDoorW.PrintLast.pure_ (i := 11) (N := some 18) (v := ?_) (a' := ?_) #[true, true, true, true, true, true, true, false, false, true, true, true, false, false, false, false, false] rfl rfl (by kernel_rfl) (fun _ _ _ h => h) (Or.inl ⟨by rfl, ?_⟩) ?_ ?_
  rotate_left
  · intro w'
    go_simp
    with_reducible rfl
  rotate_left
  · simp only [Act.put, List.setIfInBounds_toArray, List.set_cons_zero, List.set_cons_succ, Go.Proofs.YtcjhligknhpadaaDoorW.PrintLast.i64_w, Go.Proofs.YtcjhligknhpadaaDoorW.PrintLast.i32_w]
    rfl
  refine Go.Proofs.YtcjhligknhpadaaDoorW.PrintLast.take_ (i := 12) (N := some 19) (v := ?_) (a' := ?_) #[true, true, true, true, true, true, true, false, false, true, true, true, true, false, false, false, false] rfl rfl (by kernel_rfl) (fun _ _ _ h => h) (Or.inl ⟨by rfl, ?_⟩) hHeld ?_ ?_
  rotate_left
  · rintro w' s0
    go_simp
    with_reducible rfl
  rotate_left
  · simp only [Act.put, List.setIfInBounds_toArray, List.set_cons_zero, List.set_cons_succ, Go.Proofs.YtcjhligknhpadaaDoorW.PrintLast.i64_w, Go.Proofs.YtcjhligknhpadaaDoorW.PrintLast.i32_w]
    rfl
  refine Go.Proofs.YtcjhligknhpadaaDoorW.PrintLast.take_ (i := 13) (N := some 20) (v := ?_) (a' := ?_) #[true, true, true, true, true, true, true, false, false, true, true, true, true, true, false, false, false] rfl rfl (by kernel_rfl) (fun _ _ _ h => h) (Or.inl ⟨by rfl, ?_⟩) hHeld ?_ ?_
  rotate_left
  · rintro w' s0
    go_simp
    with_reducible rfl
  rotate_left
  · simp only [Act.put, List.setIfInBounds_toArray, List.set_cons_zero, List.set_cons_succ, Go.Proofs.YtcjhligknhpadaaDoorW.PrintLast.i64_w, Go.Proofs.YtcjhligknhpadaaDoorW.PrintLast.i32_w]
    rfl
  refine Go.Proofs.YtcjhligknhpadaaDoorW.PrintLast.pure_ (i := 14) (N := some 21) (v := ?_) (a' := ?_) #[true, true, true, true, true, true, true, false, false, true, true, true, true, true, true, false, false] rfl rfl (by kernel_rfl) (fun _ _ _ h => h) (Or.inl ⟨by rfl, ?_⟩) ?_ ?_
  rotate_left
  · intro w'
    go_simp
    with_reducible rfl
  rotate_left
  · simp only [Act.put, List.setIfInBounds_toArray, List.set_cons_zero, List.set_cons_succ, Go.Proofs.YtcjhligknhpadaaDoorW.PrintLast.i64_w, Go.Proofs.YtcjhligknhpadaaDoorW.PrintLast.i32_w]
    rfl
  refine Go.Proofs.YtcjhligknhpadaaDoorW.PrintLast.one_ (i := 7) (N := some 14) #[true, true, true, true, true, true, true, true, false, true, true, true, true, true, true, false, false] rfl rfl (by kernel_rfl) (by decide) (fun K hK => ?_)
  refine Go.Proofs.YtcjhligknhpadaaDoorW.PrintLast.goes_ Tryd.func20 (by kernel_rfl) rfl #[.pointer (some ⟨D, 0, none⟩)] (by rfl) rfl rfl (by (try simp only [List.map_toArray, List.map_cons, List.map_nil]); first | done | rfl) ?_
  refine (pending_any base _ D d (HI.out.below (Below.refl _ _).drew) HFit.out).mono ?_
  rintro e w2 ⟨he, nq, rfl⟩
  rw [HPE.out] at he
  subst he
  refine ⟨_, rfl, ?_⟩
  refine hK.out _ _ (by go_simp) (fun hHeld => ?_)
  clear hK K
  refine Go.Proofs.YtcjhligknhpadaaDoorW.PrintLast.norm_ (a' := ?_) ?_ ?_
  rotate_left
  · show Act.put _ (some 14) _ = _
    simp only [Act.put, List.setIfInBounds_toArray, List.set_cons_zero, List.set_cons_succ, Go.Proofs.YtcjhligknhpadaaDoorW.PrintLast.i64_w, Go.Proofs.YtcjhligknhpadaaDoorW.PrintLast.i32_w]
    rfl
  refine Go.Proofs.YtcjhligknhpadaaDoorW.PrintLast.pure_ (i := 8) (N := some 15) (v := ?_) (a' := ?_) #[true, true, true, true, true, true, true, true, true, true, true, true, true, true, true, false, false] rfl rfl (by kernel_rfl) (fun _ _ _ h => h) (Or.inl ⟨by rfl, ?_⟩) ?_ ?_
  rotate_left
  · intro w'
    go_simp
    with_reducible rfl
  rotate_left
  · simp only [Act.put, List.setIfInBounds_toArray, List.set_cons_zero, List.set_cons_succ, Go.Proofs.YtcjhligknhpadaaDoorW.PrintLast.i64_w, Go.Proofs.YtcjhligknhpadaaDoorW.PrintLast.i32_w]
    rfl
  refine Go.Proofs.YtcjhligknhpadaaDoorW.PrintLast.one_ (i := 15) (N := some 22) #[true, true, true, true, true, true, true, true, true, true, true, true, true, true, true, true, false] rfl rfl (by kernel_rfl) (by decide) (fun K hK => ?_)
  refine Go.Proofs.YtcjhligknhpadaaDoorW.PrintLast.goes_ Tryd.func44 (by kernel_rfl) rfl #[.pointer (some ⟨D, 0, none⟩), .int .i64 sf, .int .i64 m, .slice KA keep.length kc] (by rfl) rfl rfl (by (try simp only [List.map_toArray, List.map_cons, List.map_nil]); first | done | rfl) ?_
  refine (HLEFT.out _ (below_drewN (Below.refl _ _).drew _)).mono ?_
  rintro e w3 ⟨C, rfl, hi3, hb3⟩
  refine ⟨_, rfl, ?_⟩
  have HI3 := Lib.hid hi3
  have HB3 := Lib.hid hb3
  clear hi3 hb3
  refine hK.out _ _ ((HB3.out.cell (p := ⟨D, 3, none⟩) HDL.out).trans c3) (fun hHeld => ?_)
  clear hK K
  refine Go.Proofs.YtcjhligknhpadaaDoorW.PrintLast.norm_ (a' := ?_) ?_ ?_
  rotate_left
  · show Act.put _ (some 22) _ = _
    simp only [Act.put, List.setIfInBounds_toArray, List.set_cons_zero, List.set_cons_succ, Go.Proofs.YtcjhligknhpadaaDoorW.PrintLast.i64_w, Go.Proofs.YtcjhligknhpadaaDoorW.PrintLast.i32_w]
    rfl
  refine Go.Proofs.YtcjhligknhpadaaDoorW.PrintLast.pure_ (i := 16) (N := some 4) (v := ?_) (a' := ?_) #[true, true, true, true, true, true, true, true, true, true, true, true, true, true, true, true, true] rfl rfl (by kernel_rfl) (fun _ _ _ h => h) (Or.inl ⟨by rfl, ?_⟩) ?_ ?_
  rotate_left
  · intro w'
    go_simp
    with_reducible rfl
  rotate_left
  · simp only [Act.put, List.setIfInBounds_toArray, List.set_cons_zero, List.set_cons_succ, Go.Proofs.YtcjhligknhpadaaDoorW.PrintLast.i64_w, Go.Proofs.YtcjhligknhpadaaDoorW.PrintLast.i32_w]
    rfl
  refine Go.Proofs.YtcjhligknhpadaaDoorW.PrintLast.done_ (by kernel_rfl) ?_
  go_wp2
  go_ret
  exact ⟨C, rfl, HI3.out, HB3.out⟩
set_option maxHeartbeats 1000000 in
set_option maxRecDepth 100000 in
theorem cutat_some2 [av : Av] (base bs : Nat) (w : World) (D : Nat) (d : Dsk) (n : Int) (KA : Option Addr) (kc : Nat) (keep : List Bool) (h : IsDk base w D d) (hf : d.Fit) (hpos : 0 < d.syncs.length) (hbw : bs ≤ w.heap.size) (hN : 1 ≤ d.N ∧ d.N ≤ 4096)
    (hkl : keep.length ≤ 9223372036854775807) (hk : ∀ j, j < keep.length → ∃ a, KA = some a ∧ w.cell? (a.add j) = some (.bool (keep.getD j false))) :
    Calls Tryd.prog 26 #[.pointer (some ⟨D, 0, none⟩), .int .i64 n, .slice KA keep.length kc] w fun e w' => ∃ C, e = .returned (.pointer (some ⟨C, 0, none⟩)) ∧ IsDk bs w' C (leftD d (safeAt d.syncs (upTo d n) d.syncs.length) (upTo d n) keep) ∧ Below w.heap.size w w' := by
  have HI := Lib.hid h
  have HFit := Lib.hid hf
  obtain ⟨F, M, lv, sv, hd⟩ := h
  obtain ⟨vs, l1, l2, l3⟩ := hd.hL
  obtain ⟨la, lc, rfl⟩ := own_slice l3
  obtain ⟨_, _, _, c3, c4⟩ := hd.cells
  have hsa := safeAt_le d.syncs (upTo d n) (fun s hs => (hf.2.2 s hs).1) d.syncs.length
  have HLEFT := Lib.hid (show ∀ w2 (y x : Int), y = (safeAt d.syncs (upTo d n) d.syncs.length : Nat) → x = (upTo d n : Nat) → Below w.heap.size w w2 → Calls Tryd.prog 44 #[.pointer (some ⟨D, 0, none⟩), .int .i64 y, .int .i64 x, .slice KA keep.length kc] w2 fun e w' => ∃ C, e = .returned (.pointer (some ⟨C, 0, none⟩)) ∧ IsDk bs w' C (leftD d (safeAt d.syncs (upTo d n) d.syncs.length) (upTo d n) keep) ∧ Below w.heap.size w w' from fun w2 y x hy hx hb => by
    subst hy hx
    exact (left_any2 base bs w2 D d _ _ KA kc keep (HI.out.below hb) hf (Nat.le_trans hbw hb.size) hN hsa (upTo_le d n) hkl (fun j hj => by
      obtain ⟨a, e, hc⟩ := hk j hj
      exact ⟨a, e, (hb.cell (p := a.add j) (World.block_lt_of_cell? w _ hc)).trans hc⟩)).mono fun e w' ⟨C, q1, q2, q3⟩ => ⟨C, q1, q2, hb.trans (q3.mono hb.size)⟩)
  have hm := hf.1
  have hsl := hf.2.1
  obtain ⟨g, sc, rfl, _, _⟩ := sync_cell hd 0 hpos
  have HSC := Lib.hid (show ∀ i (hi : i < d.syncs.length), w.cell? ⟨g, i, none⟩ = some (.int .i64 d.syncs[i]) from fun i hi => by
    obtain ⟨g', c', e, _, hc⟩ := sync_cell hd i hi
    cases e
    exact hc)
  have hu := upTo_eq d n
  have HP0 := Lib.hid (show ∀ i (hi : i < d.syncs.length), 0 ≤ d.syncs[i] from fun i hi => (hf.2.2 _ (List.getElem_mem hi)).1)
  generalize upTo d n = u at *
  clear l1 l2 l3 hd hkl hk hbw hN hf hsa
  generalize d.log.length = m at *
  rcases (by omega : ((m : Int) < n ∧ 0 < (m : Int) ∧ u = m) ∨ ((m : Int) < n ∧ (m : Int) ≤ 0 ∧ u = 0) ∨ (n ≤ (m : Int) ∧ 0 < n ∧ n = (u : Int)) ∨ (n ≤ (m : Int) ∧ n ≤ 0 ∧ u = 0)) with ⟨t1, t2, t3⟩ | ⟨t1, t2, t3⟩ | ⟨t1, t2, t3⟩ | ⟨t1, t2, t3⟩
  · clear hu
    subst t3
    have hum : u ≤ 1000000 := by omega
    go_enter Tryd.func26, Tryd.ntmps26
    go_wp2_with fail
    go_loop [7, 25] (fun sf i => ∃ k : Nat, k ≤ d.syncs.length ∧ i = .int .i64 k ∧ sf = .int .i64 (safeAt d.syncs u k : Nat)) (fun _ i => d.syncs.length - (intOf i).toNat)
    case atStart => exact ⟨0, Nat.zero_le _, rfl, rfl⟩
    case round =>
      obtain ⟨k, hk, rfl, rfl⟩ := hrel
      by_cases hlt : k < d.syncs.length
      · have hcell := HSC.out k hlt
        have hps := HP0.out k hlt
        have HREC := Lib.hid (show safeAt d.syncs u (k + 1) = if d.syncs[k] < ((u : Nat) : Int) then d.syncs[k].toNat else safeAt d.syncs u k by simp [safeAt, List.getD_eq_getElem?_getD, hlt])
        generalize d.syncs[k] = s at *
        have q5 : decide (k < d.syncs.length) = true := decide_eq_true hlt
        by_cases hs : s < (u : Int)
        · have t5 : decide (s < (u : Int)) = true := decide_eq_true hs
          go_wp2_with fail
          go_round
          case rel => exact ⟨k + 1, by omega, by go_num, by rw [HREC.out, if_pos (by omega), Int.toNat_of_nonneg hps]⟩
          case measure => simp [intOf]; omega
        · have t5 : decide (s < (u : Int)) = false := decide_eq_false hs
          go_wp2_with fail
          go_round
          case rel => exact ⟨k + 1, by omega, by go_num, by rw [HREC.out, if_neg (by omega)]⟩
          case measure => simp [intOf]; omega
      · have ek : k = d.syncs.length := by omega
        subst ek
        go_wp2_with fail
        refine (HLEFT.out _ _ _ rfl (by omega) (Below.refl _ _)).mono ?_
        rintro e w3 ⟨C, rfl, hi3, hb3⟩
        have HI3 := Lib.hid hi3
        have HB3 := Lib.hid hb3
        clear hi3 hb3
        go_wp2
        go_ret
        exact ⟨C, rfl, HI3.out, HB3.out⟩

  · clear hu
    subst t3
    have hum : (0 : Nat) ≤ 1000000 := by omega
    go_enter Tryd.func26, Tryd.ntmps26
    go_wp2_with fail
    go_loop [7, 25] (fun sf i => ∃ k : Nat, k ≤ d.syncs.length ∧ i = .int .i64 k ∧ sf = .int .i64 (safeAt d.syncs (0 : Nat) k : Nat)) (fun _ i => d.syncs.length - (intOf i).toNat)
    case atStart => exact ⟨0, Nat.zero_le _, rfl, rfl⟩
    case round =>
      obtain ⟨k, hk, rfl, rfl⟩ := hrel
      by_cases hlt : k < d.syncs.length
      · have hcell := HSC.out k hlt
        have hps := HP0.out k hlt
        have HREC := Lib.hid (show safeAt d.syncs (0 : Nat) (k + 1) = if d.syncs[k] < (((0 : Nat) : Nat) : Int) then d.syncs[k].toNat else safeAt d.syncs (0 : Nat) k by simp [safeAt, List.getD_eq_getElem?_getD, hlt])
        generalize d.syncs[k] = s at *
        have q5 : decide (k < d.syncs.length) = true := decide_eq_true hlt
        by_cases hs : s < (0 : Int)
        · have t5 : decide (s < (0 : Int)) = true := decide_eq_true hs
          go_wp2_with fail
          go_round
          case rel => exact ⟨k + 1, by omega, by go_num, by rw [HREC.out, if_pos (by omega), Int.toNat_of_nonneg hps]⟩
          case measure => simp [intOf]; omega
        · have t5 : decide (s < (0 : Int)) = false := decide_eq_false hs
          go_wp2_with fail
          go_round
          case rel => exact ⟨k + 1, by omega, by go_num, by rw [HREC.out, if_neg (by omega)]⟩
          case measure => simp [intOf]; omega
      · have ek : k = d.syncs.length := by omega
        subst ek
        go_wp2_with fail
        refine (HLEFT.out _ _ _ rfl (by omega) (Below.refl _ _)).mono ?_
        rintro e w3 ⟨C, rfl, hi3, hb3⟩
        have HI3 := Lib.hid hi3
        have HB3 := Lib.hid hb3
        clear hi3 hb3
        go_wp2
        go_ret
        exact ⟨C, rfl, HI3.out, HB3.out⟩

  · clear hu
    subst t3
    have hum : u ≤ 1000000 := by omega
    go_enter Tryd.func26, Tryd.ntmps26
    go_wp2_with fail
    go_loop [7, 25] (fun sf i => ∃ k : Nat, k ≤ d.syncs.length ∧ i = .int .i64 k ∧ sf = .int .i64 (safeAt d.syncs u k : Nat)) (fun _ i => d.syncs.length - (intOf i).toNat)
    case atStart => exact ⟨0, Nat.zero_le _, rfl, rfl⟩
    case round =>
      obtain ⟨k, hk, rfl, rfl⟩ := hrel
      by_cases hlt : k < d.syncs.length
      · have hcell := HSC.out k hlt
        have hps := HP0.out k hlt
        have HREC := Lib.hid (show safeAt d.syncs u (k + 1) = if d.syncs[k] < ((u : Nat) : Int) then d.syncs[k].toNat else safeAt d.syncs u k by simp [safeAt, List.getD_eq_getElem?_getD, hlt])
        generalize d.syncs[k] = s at *
        have q5 : decide (k < d.syncs.length) = true := decide_eq_true hlt
        by_cases hs : s < (u : Int)
        · have t5 : decide (s < (u : Int)) = true := decide_eq_true hs
          go_wp2_with fail
          go_round
          case rel => exact ⟨k + 1, by omega, by go_num, by rw [HREC.out, if_pos (by omega), Int.toNat_of_nonneg hps]⟩
          case measure => simp [intOf]; omega
        · have t5 : decide (s < (u : Int)) = false := decide_eq_false hs
          go_wp2_with fail
          go_round
          case rel => exact ⟨k + 1, by omega, by go_num, by rw [HREC.out, if_neg (by omega)]⟩
          case measure => simp [intOf]; omega
      · have ek : k = d.syncs.length := by omega
        subst ek
        go_wp2_with fail
        refine (HLEFT.out _ _ _ rfl (by omega) (Below.refl _ _)).mono ?_
        rintro e w3 ⟨C, rfl, hi3, hb3⟩
        have HI3 := Lib.hid hi3
        have HB3 := Lib.hid hb3
        clear hi3 hb3
        go_wp2
        go_ret
        exact ⟨C, rfl, HI3.out, HB3.out⟩

  · clear hu
    subst t3
    have hum : (0 : Nat) ≤ 1000000 := by omega
    go_enter Tryd.func26, Tryd.ntmps26
    go_wp2_with fail
    go_loop [7, 25] (fun sf i => ∃ k : Nat, k ≤ d.syncs.length ∧ i = .int .i64 k ∧ sf = .int .i64 (safeAt d.syncs (0 : Nat) k : Nat)) (fun _ i => d.syncs.length - (intOf i).toNat)
    case atStart => exact ⟨0, Nat.zero_le _, rfl, rfl⟩
    case round =>
      obtain ⟨k, hk, rfl, rfl⟩ := hrel
      by_cases hlt : k < d.syncs.length
      · have hcell := HSC.out k hlt
        have hps := HP0.out k hlt
        have HREC := Lib.hid (show safeAt d.syncs (0 : Nat) (k + 1) = if d.syncs[k] < (((0 : Nat) : Nat) : Int) then d.syncs[k].toNat else safeAt d.syncs (0 : Nat) k by simp [safeAt, List.getD_eq_getElem?_getD, hlt])
        generalize d.syncs[k] = s at *
        have q5 : decide (k < d.syncs.length) = true := decide_eq_true hlt
        by_cases hs : s < (0 : Int)
        · have t5 : decide (s < (0 : Int)) = true := decide_eq_true hs
          go_wp2_with fail
          go_round
          case rel => exact ⟨k + 1, by omega, by go_num, by rw [HREC.out, if_pos (by omega), Int.toNat_of_nonneg hps]⟩
          case measure => simp [intOf]; omega
        · have t5 : decide (s < (0 : Int)) = false := decide_eq_false hs
          go_wp2_with fail
          go_round
          case rel => exact ⟨k + 1, by omega, by go_num, by rw [HREC.out, if_neg (by omega)]⟩
          case measure => simp [intOf]; omega
      · have ek : k = d.syncs.length := by omega
        subst ek
        go_wp2_with fail
        refine (HLEFT.out _ _ _ rfl (by omega) (Below.refl _ _)).mono ?_
        rintro e w3 ⟨C, rfl, hi3, hb3⟩
        have HI3 := Lib.hid hi3
        have HB3 := Lib.hid hb3
        clear hi3 hb3
        go_wp2
        go_ret
        exact ⟨C, rfl, HI3.out, HB3.out⟩
set_option maxHeartbeats 1000000 in
set_option maxRecDepth 100000 in
theorem cutat_none2 [av : Av] (base bs : Nat) (w : World) (D : Nat) (d : Dsk) (n : Int) (KA : Option Addr) (kc : Nat) (keep : List Bool) (h : IsDk base w D d) (hf : d.Fit) (hpos : d.syncs.length = 0) (hbw : bs ≤ w.heap.size) (hN : 1 ≤ d.N ∧ d.N ≤ 4096)
    (hkl : keep.length ≤ 9223372036854775807) (hk : ∀ j, j < keep.length → ∃ a, KA = some a ∧ w.cell? (a.add j) = some (.bool (keep.getD j false))) :
    Calls Tryd.prog 26 #[.pointer (some ⟨D, 0, none⟩), .int .i64 n, .slice KA keep.length kc] w fun e w' => ∃ C, e = .returned (.pointer (some ⟨C, 0, none⟩)) ∧ IsDk bs w' C (leftD d (safeAt d.syncs (upTo d n) d.syncs.length) (upTo d n) keep) ∧ Below w.heap.size w w' := by
  have HI := Lib.hid h
  have HFit := Lib.hid hf
  obtain ⟨F, M, lv, sv, hd⟩ := h
  obtain ⟨vs, l1, l2, l3⟩ := hd.hL
  obtain ⟨la, lc, rfl⟩ := own_slice l3
  obtain ⟨_, _, _, c3, c4⟩ := hd.cells
  have hsa := safeAt_le d.syncs (upTo d n) (fun s hs => (hf.2.2 s hs).1) d.syncs.length
  have HLEFT := Lib.hid (show ∀ w2 (y x : Int), y = (safeAt d.syncs (upTo d n) d.syncs.length : Nat) → x = (upTo d n : Nat) → Below w.heap.size w w2 → Calls Tryd.prog 44 #[.pointer (some ⟨D, 0, none⟩), .int .i64 y, .int .i64 x, .slice KA keep.length kc] w2 fun e w' => ∃ C, e = .returned (.pointer (some ⟨C, 0, none⟩)) ∧ IsDk bs w' C (leftD d (safeAt d.syncs (upTo d n) d.syncs.length) (upTo d n) keep) ∧ Below w.heap.size w w' from fun w2 y x hy hx hb => by
    subst hy hx
    exact (left_any2 base bs w2 D d _ _ KA kc keep (HI.out.below hb) hf (Nat.le_trans hbw hb.size) hN hsa (upTo_le d n) hkl (fun j hj => by
      obtain ⟨a, e, hc⟩ := hk j hj
      exact ⟨a, e, (hb.cell (p := a.add j) (World.block_lt_of_cell? w _ hc)).trans hc⟩)).mono fun e w' ⟨C, q1, q2, q3⟩ => ⟨C, q1, q2, hb.trans (q3.mono hb.size)⟩)
  have hm := hf.1
  have hsl := hf.2.1
  obtain ⟨sa, sc, rfl⟩ := own_slice hd.hS
  have HZ := Lib.hid hpos
  clear hpos
  have hu := upTo_eq d n
  have HP0 := Lib.hid (show ∀ i (hi : i < d.syncs.length), 0 ≤ d.syncs[i] from fun i hi => (hf.2.2 _ (List.getElem_mem hi)).1)
  generalize upTo d n = u at *
  clear l1 l2 l3 hd hkl hk hbw hN hf hsa
  generalize d.log.length = m at *
  rcases (by omega : ((m : Int) < n ∧ 0 < (m : Int) ∧ u = m) ∨ ((m : Int) < n ∧ (m : Int) ≤ 0 ∧ u = 0) ∨ (n ≤ (m : Int) ∧ 0 < n ∧ n = (u : Int)) ∨ (n ≤ (m : Int) ∧ n ≤ 0 ∧ u = 0)) with ⟨t1, t2, t3⟩ | ⟨t1, t2, t3⟩ | ⟨t1, t2, t3⟩ | ⟨t1, t2, t3⟩
  · clear hu
    subst t3
    have hum : u ≤ 1000000 := by omega
    go_enter Tryd.func26, Tryd.ntmps26
    go_wp2_with fail
    go_loop [7, 25] (fun sf i => ∃ k : Nat, k ≤ d.syncs.length ∧ i = .int .i64 k ∧ sf = .int .i64 (safeAt d.syncs u k : Nat)) (fun _ i => d.syncs.length - (intOf i).toNat)
    case atStart => exact ⟨0, Nat.zero_le _, rfl, rfl⟩
    case round =>
      obtain ⟨k, hk, rfl, rfl⟩ := hrel
      by_cases hlt : k < d.syncs.length
      · exact absurd hlt (by rw [HZ.out]; exact Nat.not_lt_zero _)
      · have ek : k = d.syncs.length := by omega
        subst ek
        go_wp2_with fail
        refine (HLEFT.out _ _ _ rfl (by omega) (Below.refl _ _)).mono ?_
        rintro e w3 ⟨C, rfl, hi3, hb3⟩
        have HI3 := Lib.hid hi3
        have HB3 := Lib.hid hb3
        clear hi3 hb3
        go_wp2
        go_ret
        exact ⟨C, rfl, HI3.out, HB3.out⟩

  · clear hu
    subst t3
    have hum : (0 : Nat) ≤ 1000000 := by omega
    go_enter Tryd.func26, Tryd.ntmps26
    go_wp2_with fail
    go_loop [7, 25] (fun sf i => ∃ k : Nat, k ≤ d.syncs.length ∧ i = .int .i64 k ∧ sf = .int .i64 (safeAt d.syncs (0 : Nat) k : Nat)) (fun _ i => d.syncs.length - (intOf i).toNat)
    case atStart => exact ⟨0, Nat.zero_le _, rfl, rfl⟩
    case round =>
      obtain ⟨k, hk, rfl, rfl⟩ := hrel
      by_cases hlt : k < d.syncs.length
      · exact absurd hlt (by rw [HZ.out]; exact Nat.not_lt_zero _)
      · have ek : k = d.syncs.length := by omega
        subst ek
        go_wp2_with fail
        refine (HLEFT.out _ _ _ rfl (by omega) (Below.refl _ _)).mono ?_
        rintro e w3 ⟨C, rfl, hi3, hb3⟩
        have HI3 := Lib.hid hi3
        have HB3 := Lib.hid hb3
        clear hi3 hb3
        go_wp2
        go_ret
        exact ⟨C, rfl, HI3.out, HB3.out⟩

  · clear hu
    subst t3
    have hum : u ≤ 1000000 := by omega
    go_enter Tryd.func26, Tryd.ntmps26
    go_wp2_with fail
    go_loop [7, 25] (fun sf i => ∃ k : Nat, k ≤ d.syncs.length ∧ i = .int .i64 k ∧ sf = .int .i64 (safeAt d.syncs u k : Nat)) (fun _ i => d.syncs.length - (intOf i).toNat)
    case atStart => exact ⟨0, Nat.zero_le _, rfl, rfl⟩
    case round =>
      obtain ⟨k, hk, rfl, rfl⟩ := hrel
      by_cases hlt : k < d.syncs.length
      · exact absurd hlt (by rw [HZ.out]; exact Nat.not_lt_zero _)
      · have ek : k = d.syncs.length := by omega
        subst ek
        go_wp2_with fail
        refine (HLEFT.out _ _ _ rfl (by omega) (Below.refl _ _)).mono ?_
        rintro e w3 ⟨C, rfl, hi3, hb3⟩
        have HI3 := Lib.hid hi3
        have HB3 := Lib.hid hb3
        clear hi3 hb3
        go_wp2
        go_ret
        exact ⟨C, rfl, HI3.out, HB3.out⟩

  · clear hu
    subst t3
    have hum : (0 : Nat) ≤ 1000000 := by omega
    go_enter Tryd.func26, Tryd.ntmps26
    go_wp2_with fail
    go_loop [7, 25] (fun sf i => ∃ k : Nat, k ≤ d.syncs.length ∧ i = .int .i64 k ∧ sf = .int .i64 (safeAt d.syncs (0 : Nat) k : Nat)) (fun _ i => d.syncs.length - (intOf i).toNat)
    case atStart => exact ⟨0, Nat.zero_le _, rfl, rfl⟩
    case round =>
      obtain ⟨k, hk, rfl, rfl⟩ := hrel
      by_cases hlt : k < d.syncs.length
      · exact absurd hlt (by rw [HZ.out]; exact Nat.not_lt_zero _)
      · have ek : k = d.syncs.length := by omega
        subst ek
        go_wp2_with fail
        refine (HLEFT.out _ _ _ rfl (by omega) (Below.refl _ _)).mono ?_
        rintro e w3 ⟨C, rfl, hi3, hb3⟩
        have HI3 := Lib.hid hi3
        have HB3 := Lib.hid hb3
        clear hi3 hb3
        go_wp2
        go_ret
        exact ⟨C, rfl, HI3.out, HB3.out⟩
theorem cutat_any2 [av : Av] (base bs : Nat) (w : World) (D : Nat) (d : Dsk) (n : Int) (KA : Option Addr) (kc : Nat) (keep : List Bool) (h : IsDk base w D d) (hf : d.Fit) (hbw : bs ≤ w.heap.size) (hN : 1 ≤ d.N ∧ d.N ≤ 4096)
    (hkl : keep.length ≤ 9223372036854775807) (hk : ∀ j, j < keep.length → ∃ a, KA = some a ∧ w.cell? (a.add j) = some (.bool (keep.getD j false))) :
    Calls Tryd.prog 26 #[.pointer (some ⟨D, 0, none⟩), .int .i64 n, .slice KA keep.length kc] w fun e w' => ∃ C, e = .returned (.pointer (some ⟨C, 0, none⟩)) ∧ IsDk bs w' C (leftD d (safeAt d.syncs (upTo d n) d.syncs.length) (upTo d n) keep) ∧ Below w.heap.size w w' := by
  by_cases hp : 0 < d.syncs.length
  · exact cutat_some2 base bs w D d n KA kc keep h hf hp hbw hN hkl hk
  · exact cutat_none2 base bs w D d n KA kc keep h hf (by omega) hbw hN hkl hk
end Dk
end Go.Proofs.YtcjhligknhpadaaDoor

namespace Go.Proofs.YtcjhligknhpadaaDoor
open Go.RowKit Go.Proofs.YtcjhligknhpadaaDoor.Wp Go.Proofs.YtcjhligknhpadaaDoorW.PrintWords Go.Proofs.YtcjhligknhpadaaDoorW.PrintLast
set_option linter.unusedVariables false
set_option linter.unusedSimpArgs false
namespace Dk

theorem DkOf.fit {base : Nat} {w : World} {D : Nat} {d : Dsk} (h : DkOf base w D d) (hn : d.log.length ≤ 1000000) (hs : d.syncs.length ≤ 1000000) : d.Fit := ⟨hn, hs, h.2.1.syncs⟩
theorem dk_writes (base : Nat) (w : World) (D : Nat) (d : Dsk) (h : DkOf base w D d) : Calls Tryd.prog 27 #[.pointer (some ⟨D, 0, none⟩)] w fun e w' => e = .returned (.int .i64 d.log.length) ∧ w = w' := by
  obtain ⟨F, M, lv, sv, bD, bF, bM, ne, hD, hF, hM, ⟨vs, l1, l2, l3⟩, hS⟩ := h.1
  obtain ⟨la, lc, rfl⟩ := own_slice l3
  exact writes_any D d.log.length lc la w (cell_of hD rfl)
theorem dk_cut (base bs : Nat) (w : World) (D : Nat) (d : Dsk) (kv : Value) (keep : List Bool) (h : DkOf base w D d) (hn : d.log.length ≤ 1000000) (hs : d.syncs.length ≤ 1000000) (hb : bs ≤ w.heap.size) (hk : BoolsIn w kv keep) : Calls Tryd.prog 25 #[.pointer (some ⟨D, 0, none⟩), kv] w fun e w' => ∃ C, e = .returned (.pointer (some ⟨C, 0, none⟩)) ∧ DkOf bs w' C (leftD d (safeOf d) d.log.length keep) ∧ Below w.heap.size w w' := by
  obtain ⟨a, c, rfl, h1, h2⟩ := hk
  refine (cut_any2 (av := av0) base bs w D d a c keep h.1 (h.fit hn hs) hb h.2.2 h1 h2).mono ?_
  rintro e w' ⟨C, rfl, q1, q2⟩
  exact ⟨C, rfl, ⟨q1, h.2.1.left _ _ _ (Nat.le_refl _), h.2.2⟩, q2⟩
theorem dk_cutat (base bs : Nat) (w : World) (D : Nat) (d : Dsk) (n : Nat) (kv : Value) (keep : List Bool) (h : DkOf base w D d) (hn : d.log.length ≤ 1000000) (hs : d.syncs.length ≤ 1000000) (hb : bs ≤ w.heap.size) (hk : BoolsIn w kv keep) (hnl : n ≤ d.log.length) : Calls Tryd.prog 26 #[.pointer (some ⟨D, 0, none⟩), .int .i64 n, kv] w fun e w' => ∃ C, e = .returned (.pointer (some ⟨C, 0, none⟩)) ∧ DkOf bs w' C (leftD d (safeAt d.syncs n d.syncs.length) n keep) ∧ Below w.heap.size w w' := by
  obtain ⟨a, c, rfl, h1, h2⟩ := hk
  have e : upTo d n = n := by unfold upTo; omega
  refine (cutat_any2 (av := av0) base bs w D d n a c keep h.1 (h.fit hn hs) hb h.2.2 h1 h2).mono ?_
  rintro e w' ⟨C, rfl, q1, q2⟩
  rw [e] at q1
  exact ⟨C, rfl, ⟨q1, h.2.1.left _ _ _ hnl, h.2.2⟩, q2⟩
theorem safe_last {d : Dsk} (h : Synced d) : safeOf d = d.log.length := by
  unfold safeOf
  rw [h]
  simp
/-- what is safe is left whole -/
theorem left_synced {d : Dsk} (h : Wf d) (hy : Synced d) (keep : List Bool) : (leftD d (safeOf d) d.log.length keep).now = d.now := by
  rw [safe_last hy]
  show leftM d.first d.log d.log.length keep d.log.length = d.now
  rw [leftM_all _ _ _ _ _ (fun i hi => by simp [kept, hi]), h.now]
/-- a log stays where nothing of its own is turned: of what may be turned, one row of slices, that is not its own -/
theorem LogOf.out {base : Nat} {w w' : World} {P D I : Nat} {rv : Value} {l : Lg} {d : Dsk} (h : LogOf base w P D I rv l d) (ob : Option Nat) (hm : ∀ (i : Nat) (o : Obj), w.heap[i]? = some o → some i ≠ ob → w'.heap[i]? = some o) (hob : ∀ i, ob = some i → (∃ cur, w.heap[i]? = some (.cells cur 22 (0, 0))) ∧ rv.ownBlock ≠ some i) : LogOf base w' P D I rv l d := by
  have mv : ∀ (i : Nat) (o : Obj), w.heap[i]? = some o → (∀ cur, o ≠ .cells cur 22 (0, 0)) → w'.heap[i]? = some o := fun i o ho hn => hm i o ho (fun q => by
    obtain ⟨⟨cur, hc⟩, _⟩ := hob i q.symm
    rw [hc] at ho
    cases ho
    exact hn _ rfl)
  have ne : ∀ (cur : Array Value) (t : TypeId), t ≠ 22 → ∀ c, (Obj.cells cur t (0, 0)) ≠ .cells c 22 (0, 0) := fun cur t ht c q => ht (Obj.cells.inj q).2.1
  have byt : ∀ (av : Av) v l, Byts (av := av) w v l → Byts (av := av) w' v l := fun av v l h => ⟨h.1, own_move h.2 fun g cur hg hh => mv g _ hh (ne _ _ (by decide))⟩
  obtain ⟨⟨b1, b2, b3, hP, hI, b4, b5, b6, b7, ⟨vs, r1, r2, r3⟩⟩, ⟨F, M, lv, sv, bD, bF, bM, nn, hD, hF, hM, ⟨us, l1, l2, l3⟩, hS⟩, hg, hz⟩ := h
  have mp : ∀ M m, MapB (av := av0.with I) w M m → MapB (av := av0.with I) w' M m := fun M m ⟨es, c, h1, h2, h3⟩ => ⟨es, c, mv M _ h1 (fun cur q => by cases q), h2, fun q => byt _ _ _ (h3 q)⟩
  refine ⟨@LgAt.mk (av0.with I) _ _ _ _ _ _ _ b1 b2 b3 (mv P _ hP (ne _ _ (by decide))) (mv I _ hI (ne _ _ (by decide))) b4 b5 b6 b7 ⟨vs, r1, fun p hp => byt _ _ _ (r2 p hp), ?_⟩, ⟨F, M, lv, sv, @DkAt.mk (av0.with I) _ _ _ _ _ _ _ _ bD bF bM nn (mv D _ hD (ne _ _ (by decide))) (mp _ _ hF) (mp _ _ hM) ⟨us, l1, fun p hp => byt _ _ _ (l2 p hp), own_move l3 fun g cur _ hh => mv g _ hh (ne _ _ (by decide))⟩ (own_move hS fun g cur _ hh => mv g _ hh (ne _ _ (by decide)))⟩, hg, hz⟩
  exact own_move r3 fun g cur hg' hh => hm g _ hh (fun q => (hob g q.symm).2 hg')
/-- a list of records that a law keeps beside a log: its bytes lie as they lay in w0 -/
def AllOf (base : Nat) (w0 w : World) (av : Value) (rs : List (List Int)) (P I : Nat) (rv : Value) : Prop :=
  (∃ vs : List Value, vs.length = rs.length ∧ (∀ p ∈ rs.zip vs, BytesIn w0 p.2 p.1) ∧ w.ownsRow base 22 1 av rs.length vs) ∧ ∀ i, av.ownBlock = some i → ¬ LgOwn P I rv i
theorem AllOf.kind {base : Nat} {w0 w : World} {av : Value} {rs : List (List Int)} {P I : Nat} {rv : Value} (h : AllOf base w0 w av rs P I rv) : ∀ i, av.ownBlock = some i → (base ≤ i ∧ i < w.heap.size ∧ ∃ cur, w.heap[i]? = some (.cells cur 22 (0, 0))) := fun i hi => by
  obtain ⟨⟨vs, h1, h2, h3⟩, _⟩ := h
  obtain ⟨hb, cur, hc⟩ := own_kind h3 hi
  exact ⟨hb, lt_of_heap hc, cur, hc⟩
theorem AllOf.move {base : Nat} {w0 w w' : World} {av : Value} {rs : List (List Int)} {P I P' I' : Nat} {rv rv' : Value} (h : AllOf base w0 w av rs P I rv) (hm : ∀ (i : Nat) (cur : Array Value), av.ownBlock = some i → w.heap[i]? = some (.cells cur 22 (0, 0)) → w'.heap[i]? = some (.cells cur 22 (0, 0))) (ho : ∀ i, av.ownBlock = some i → ¬ LgOwn P' I' rv' i) : AllOf base w0 w' av rs P' I' rv' := by
  obtain ⟨⟨vs, h1, h2, h3⟩, h4⟩ := h
  exact ⟨⟨vs, h1, h2, own_move h3 fun g cur hg hh => hm g cur hg hh⟩, ho⟩
theorem AllOf.keep {base : Nat} {w0 w w' : World} {av : Value} {rs : List (List Int)} {P I : Nat} {rv rv' : Value} (h : AllOf base w0 w av rs P I rv) (hk : LKeep (LgOwn P I rv) w w') (ho : ∀ i, i < w.heap.size → LgOwn P I rv' i → LgOwn P I rv i) : AllOf base w0 w' av rs P I rv' :=
  h.move (fun i cur hi hc => hk.all i _ hc (h.2 i hi)) (fun i hi q => h.2 i hi (ho i (h.kind i hi).2.1 q))
theorem AllOf.chg {base : Nat} {w0 w w' : World} {av : Value} {rs : List (List Int)} {P I : Nat} {rv : Value} (h : AllOf base w0 w av rs P I rv) (hk : LChg base (LgOwn P I rv) w w') : AllOf base w0 w' av rs P I rv :=
  h.move (fun i cur hi hc => hk.keep i _ hc rfl (h.2 i hi)) h.2
theorem AllOf.below {base : Nat} {w0 w w' : World} {av : Value} {rs : List (List Int)} {P I : Nat} {rv : Value} (h : AllOf base w0 w av rs P I rv) (hk : Below w.heap.size w w') : AllOf base w0 w' av rs P I rv :=
  h.move (fun i cur hi hc => (hk.block i (lt_of_heap hc)).trans hc) h.2
theorem AllOf.in_ {base : Nat} {w0 w : World} {av : Value} {rs : List (List Int)} {P I : Nat} {rv : Value} (h : AllOf base w0 w av rs P I rv) (hb : Below w0.heap.size w0 w) (hn : rs.length ≤ 1000000) : RowsIn w av rs := by
  obtain ⟨⟨vs, h1, h2, h3⟩, _⟩ := h
  obtain ⟨a, c, rfl⟩ := own_slice h3
  refine ⟨a, c, rfl, by omega, fun j hj => ?_⟩
  rcases h3.2 with ⟨_, q⟩ | ⟨g, cap, cur, q, q2, q3, q4, q5⟩
  · omega
  · have hv : vs[j]? = some vs[j] := List.getElem?_eq_getElem (by omega)
    have hc := World.ownsRow.cells h3 (g := g) (by rw [q]; rfl) j vs[j] hv
    cases q
    refine ⟨_, vs[j], rfl, hc, (h2 (rs[j], vs[j]) ?_).mono (below_cells hb)⟩
    rw [List.mem_iff_getElem]
    exact ⟨j, by rw [List.length_zip]; omega, List.getElem_zip⟩
/-- one record more in the list -/
theorem AllOf.snoc {base : Nat} {w0 w w' : World} {av av' u : Value} {rs : List (List Int)} {b : List Int} {vs : List Value} {P I : Nat} {rv : Value} (h1 : vs.length = rs.length) (h2 : ∀ p ∈ rs.zip vs, BytesIn w0 p.2 p.1) (h4 : ∀ i, av.ownBlock = some i → ¬ LgOwn P I rv i) (hu : BytesIn w0 u b) (ho : w'.ownsRow base 22 1 av' (rs.length + 1) (vs ++ [u])) (hv : av'.ownBlock = av.ownBlock ∨ ∃ b, av'.ownBlock = some b ∧ w.heap.size ≤ b) (hs : ∀ i, LgOwn P I rv i → i < w.heap.size) : AllOf base w0 w' av' (rs ++ [b]) P I rv := by
  refine ⟨⟨vs ++ [u], by simp [h1], fun p hp => ?_, by rw [List.length_append]; exact ho⟩, fun i hi q => ?_⟩
  · rw [List.zip_append h1.symm] at hp
    rcases List.mem_append.1 hp with hp | hp
    · exact h2 p hp
    · simp only [List.zip_cons_cons, List.zip_nil_right, List.mem_singleton] at hp
      subst hp
      exact hu
  · rcases hv with hv | ⟨b', hv, hlt⟩
    · exact h4 i (hv ▸ hi) q
    · rw [hv] at hi
      cases hi
      have := hs _ q
      omega
theorem LogOf.ownlt {base : Nat} {w : World} {P D I : Nat} {rv : Value} {l : Lg} {d : Dsk} (h : LogOf base w P D I rv l d) : ∀ i, LgOwn P I rv i → i < w.heap.size := by
  have hn := h.nums
  obtain ⟨vs, r1, r2, r3⟩ := LgAt.hR (av := av0.with I) h.1
  rintro i (rfl | rfl | q)
  · exact hn.2.2.1
  · exact hn.2.2.2.1
  · obtain ⟨cur, hc⟩ := (own_kind r3 q).2
    exact lt_of_heap hc
theorem flush_log {l : Lg} {d : Dsk} (h : Good l d) : (d.log.length < (flD l d).log.length ↔ l.dirty < l.fin) ∧ (¬ l.dirty < l.fin → flD l d = d) := by
  have hd := h.dirty_le
  have hle := h.le
  unfold flD flushD
  by_cases hlt : l.dirty < l.fin
  · rw [if_pos hlt]
    refine ⟨⟨fun _ => hlt, fun _ => ?_⟩, fun q => absurd hlt q⟩
    have h1 := batch_fields l.first (zcut l.img l.dirty) l.dirty l.fin d
    unfold oneD
    split
    · have h2 := batch_fields l.first l.img l.dirty (l.dirty + 1) (batchD l.first (zcut l.img l.dirty) l.dirty l.fin d)
      omega
    · omega
  · rw [if_neg hlt]
    exact ⟨⟨fun q => by omega, fun q => absurd q hlt⟩, fun _ => rfl⟩
/-- all or nothing, plainly: what is read of what a loss of power leaves within a flush -/
theorem whole_cut {l : Lg} {d : Dsk} (h : Good l d) (n : Nat) (keep : List Bool) (hn0 : d.log.length < n) (hn : n ≤ (flD l d).log.length) :
    (opL l.first l.S (leftD (flD l d) (safeAt (flD l d).syncs n (flD l d).syncs.length) n keep)).recs = l.recs.take l.flushed ∨ (opL l.first l.S (leftD (flD l d) (safeAt (flD l d).syncs n (flD l d).syncs.length) n keep)).recs = l.recs := by
  have hd := h.dirty_le
  have hlt : l.dirty < l.fin := (flush_log h).1.1 (by omega)
  have hle := h.le
  have hz : zfrom l.img l.fin = l.img := by
    have q := zfrom_img (rs := l.recs) (l.S * 128 - l.fin) l.recs.length
    rw [List.take_of_length_le (Nat.le_refl _), List.drop_of_length_le (Nat.le_refl _), ← h.fin, ← h.img] at q
    rw [q, show sizeF [] = 0 from rfl, Nat.zero_add, ← h.img]
  have hlen := h.len
  have hrl := h.recs_le
  obtain ⟨c1, c2⟩ := flush_cut h.wf h.sy l.first l.img l.dirty l.fin l.S n keep hlen hlt (by omega) hd.2.1 (hd.2.2 hlt) h.reg hz hn0 hn _ rfl
  unfold opL openL
  rcases c2 with c2 | c2
  · left
    have e : readF crcF (l.S * 128 + 1) (zfrom l.img l.dirty) = l.recs.take l.flushed := by
      rw [h.img, h.dirty, zfrom_img]
      exact read_frames _ _ _ (fun r hr => h.ok r (List.mem_of_mem_take hr)) (by rw [List.length_take]; omega)
    have hsz : sizeF (readF crcF (l.S * 128 + 1) (zfrom l.img l.dirty)) = l.dirty := by rw [e, h.dirty]
    have q := read_same (crc := crcF) (k := l.S * 128 + 1) (l := zfrom l.img l.dirty) (by rw [c1, zfrom_len _ _ (by omega), hlen]) (by rw [hsz]; exact c2) (by rw [hsz]; exact isZ_drop_zfrom _ _ (by omega)) (l.S * 128 + 1) (by rw [e, List.length_take]; omega)
    exact q.trans e
  · right
    show readF crcF (l.S * 128 + 1) (Dk.reg (leftD (flD l d) (safeAt (flD l d).syncs n (flD l d).syncs.length) n keep).now l.first l.S) = l.recs
    have c2' : Dk.reg (leftD (flD l d) (safeAt (flD l d).syncs n (flD l d).syncs.length) n keep).now l.first l.S = l.img := c2
    rw [c2', h.img]
    exact read_frames _ _ _ h.ok (by omega)
end Dk
end Go.Proofs.YtcjhligknhpadaaDoor

namespace Go.Proofs.YtcjhligknhpadaaDoor
open Go.RowKit Go.Proofs.YtcjhligknhpadaaDoor.Wp Go.Proofs.YtcjhligknhpadaaDoorW.PrintWords Go.Proofs.YtcjhligknhpadaaDoorW.PrintLast
set_option linter.unusedVariables false
set_option linter.unusedSimpArgs false
namespace Dk

theorem appL_same (l : Lg) (b : List Int) : (appL l b).first = l.first ∧ (appL l b).S = l.S ∧ (appL l b).flushed = l.flushed := by
  unfold appL
  split <;> exact ⟨rfl, rfl, rfl⟩
theorem appL_yes {l : Lg} {b : List Int} (h : appC l b = 0) : (appL l b).recs = l.recs ++ [b] := by
  unfold appL
  rw [if_pos ((appC_zero l b).1 h)]
theorem appL_no {l : Lg} {b : List Int} (h : ¬ appC l b = 0) : appL l b = l := by
  unfold appL
  rw [if_neg (fun q => h ((appC_zero l b).2 q))]
theorem BytesIn.apart {w : World} {a : Option Addr} {n c P I B : Nat} {l : List Int} (h : BytesIn w (.slice a n c) l) (hB : w.heap.size ≤ B) (hP : B ≤ P) (hI : B ≤ I) : l.length = n ∧ (0 < n → ∀ ad, a = some ad → ad.block ≠ I ∧ ad.block ≠ P) := by
  obtain ⟨a', c', h1, _, _, h4⟩ := h
  cases h1
  refine ⟨rfl, fun hn ad q => ?_⟩
  obtain ⟨ad', q', hc⟩ := h4 0 hn
  rw [q] at q'
  cases q'
  have := World.block_lt_of_cell? w _ hc
  have e : (ad.add 0).block = ad.block := rfl
  omega
theorem RowsIn.take {w : World} {a : Option Addr} {m c : Nat} {rs : List (List Int)} (h : RowsIn w (.slice a m c) rs) (n : Nat) (hn : n ≤ rs.length) : RowsIn w (.slice a n c) (rs.take n) := by
  obtain ⟨a', c', h1, h2, h3⟩ := h
  cases h1
  have hl : (rs.take n).length = n := by rw [List.length_take]; omega
  refine ⟨a, c, by rw [hl], by omega, fun j hj => ?_⟩
  rw [hl] at hj
  obtain ⟨ad, u, q1, q2, q3⟩ := h3 j (by omega)
  exact ⟨ad, u, q1, q2, by rw [List.getElem_take]; exact q3⟩
/-- behind a flush all is left, whatever a loss of power keeps -/
theorem all_left {l : Lg} {d : Dsk} (h : Good l d) (keep : List Bool) : (opL l.first l.S (leftD (flD l d) (safeOf (flD l d)) (flD l d).log.length keep)).recs = l.recs := by
  have hgf := h.flush
  have q := hgf.read
  have e : (flL l).recs.take (flL l).flushed = l.recs := List.take_of_length_le (Nat.le_refl _)
  have q' : readF crcF (l.S * 128 + 1) (reg (flD l d).now l.first l.S) = l.recs := q.trans e
  unfold opL openL
  rw [left_synced (d := flD l d) hgf.wf hgf.sy]
  exact q'
/-- a record of a law's argument is appended -/
theorem log_append_in (B : Nat) (w wr : World) (P D I : Nat) (rv : Value) (l : Lg) (d : Dsk) (u : Value) (b : List Int) (h : LogOf B wr P D I rv l d) (hw : w.heap.size ≤ B) (hb0 : 0 < B) (ht : Tab w) (h0 : 0 < w.heap.size) (hu : BytesIn w u b) (hm : Below w.heap.size w wr) :
    Calls Tryd.prog 11 #[.pointer (some ⟨P, 0, none⟩), u] wr fun e w' => e = .returned (.int .i64 (appC l b)) ∧ ∃ rv', LogOf B w' P D I rv' (appL l b) d ∧ LKeep (LgOwn P I rv) wr w' ∧ (∀ i, i < wr.heap.size → LgOwn P I rv' i → LgOwn P I rv i) := by
  obtain ⟨a, c, rfl, h1, h2, h3⟩ := hu
  have hn := h.nums
  have hap := BytesIn.apart (B := B) (P := P) (I := I) ⟨a, c, rfl, h1, h2, h3⟩ hw hn.1 hn.2.1
  exact log_append B wr P D I rv l d a b.length c b h (by omega) hb0 (ht.mono hm h0) rfl h1 (fun j hj => by
    obtain ⟨ad, q1, q2⟩ := h3 j hj
    exact ⟨ad, q1, below_cells hm _ _ q2⟩) hap.2
end Dk
end Go.Proofs.YtcjhligknhpadaaDoor

namespace Go.Proofs.YtcjhligknhpadaaDoor
open Go.RowKit Go.ChangeShapes Go.WideShapes Go.Deep Go.Proofs.YtcjhligknhpadaaDoor.Wp Go.Proofs.YtcjhligknhpadaaDoorW.PrintWords Go.Proofs.YtcjhligknhpadaaDoorW.PrintLast
set_option linter.unusedVariables false
set_option linter.unusedSimpArgs false
namespace Dk

theorem opL_S (x y : Nat) (d : Dsk) : (opL x y d).S = y := rfl
theorem opL_first (x y : Nat) (d : Dsk) : (opL x y d).first = x := rfl
theorem opL_flushed (x y : Nat) (d : Dsk) : (opL x y d).flushed = (opL x y d).recs.length := rfl
def PartsIn (w : World) (v : Value) (ps : List (List (List Int))) : Prop := ∃ (a : Option Addr) (c : Nat), v = .slice a ps.length c ∧ ps.length ≤ 9223372036854775807 ∧ ∀ j (hj : j < ps.length), ∃ ad u, a = some ad ∧ w.cell? (ad.add j) = some u ∧ RowsIn w u ps[j]
theorem parts_in {H : Type} {enc : TypeId × Value → H} {w : World} {base : Nat} {spare : Nat → Bool} {held : Bool} {v : Value} {x : DataW H × List MemPlace} {fuel : Nat} (hf : DataW.trod enc Tryd.prog w base spare held fuel 52 [v] = some x) : ∃ l, PartsIn w v l := by
  rcases open_slice1 Tryd.underlying52 (by kernel_rfl) hf with ⟨hcs, _⟩ | ⟨a, len, c, m, n, V, D, Pl, hcs, hb, hl, hm, hmm, _, hi⟩
  · cases hcs
    exact ⟨[], none, 0, rfl, by simp, fun j hj => by simp at hj⟩
  · cases hcs
    have hlm : len ≤ m := by
      rw [hmm]
      split
      · exact hl
      · exact Nat.le_refl _
    have hex : ∀ j, j < len → ∃ l, RowsIn w (V j) l := fun j hj => rows_in (hi j (by omega)).2
    let g : Nat → List (List Int) := fun j => if q : j < len then (hex j q).choose else []
    have hg : ∀ j, j < len → RowsIn w (V j) (g j) := by
      intro j q
      show RowsIn w (V j) (if q : j < len then (hex j q).choose else [])
      rw [dif_pos q]
      exact (hex j q).choose_spec
    have hlen : ((List.range len).map g).length = len := by simp
    refine ⟨(List.range len).map g, some a, c, by rw [hlen], by rw [hlen]; unfold maxLen at hm; omega, fun j hj => ?_⟩
    rw [hlen] at hj
    refine ⟨a, V j, rfl, (hi j (by omega)).1, ?_⟩
    rw [List.getElem_map, List.getElem_range]
    exact hg j hj
/-- a list of copies of records, beside a log -/
def AllAt (B : Nat) (w : World) (v : Value) (rs : List (List Int)) (P I : Nat) (rv : Value) : Prop :=
  RowsAt (av := av0.with I) B w v rs ∧ ∀ i, v.ownBlock = some i → ¬ LgOwn P I rv i
theorem AllAt.move {B : Nat} {w w' : World} {v : Value} {rs : List (List Int)} {P I P' I' : Nat} {rv rv' : Value} (h : AllAt B w v rs P I rv)
    (hu : ∀ (k : Nat) (cur : Array Value), w.heap[k]? = some (.cells cur 5 (0, 0)) → k ≠ I → w'.heap[k]? = some (.cells cur 5 (0, 0)) ∧ k ≠ I') (hb : ∀ (k : Nat) (cur : Array Value), w.heap[k]? = some (.cells cur 22 (0, 0)) → v.ownBlock = some k → w'.heap[k]? = some (.cells cur 22 (0, 0))) (ho : ∀ i, v.ownBlock = some i → ¬ LgOwn P' I' rv' i) : AllAt B w' v rs P' I' rv' := by
  obtain ⟨⟨vs, h1, h2, h3⟩, _⟩ := h
  refine ⟨⟨vs, h1, fun p hp => ?_, own_move h3 fun g cur hg hh => hb g cur hh hg⟩, ho⟩
  obtain ⟨⟨q1, q2⟩, q3⟩ := h2 p hp
  refine ⟨⟨q1, fun g hg q => ?_⟩, own_move q3 fun g cur hg hh => (hu g cur hh (fun e => q2 g hg (.inr e))).1⟩
  obtain ⟨cur, hc⟩ := (own_kind q3 hg).2
  rcases q with q | q
  · exact q
  · exact (hu g cur hc (fun e => q2 g hg (.inr e))).2 q
theorem AllAt.kind {B : Nat} {w : World} {v : Value} {rs : List (List Int)} {P I : Nat} {rv : Value} (h : AllAt B w v rs P I rv) : ∀ i, v.ownBlock = some i → (B ≤ i ∧ i < w.heap.size ∧ ∃ cur, w.heap[i]? = some (.cells cur 22 (0, 0))) := fun i hi => by
  obtain ⟨⟨vs, h1, h2, h3⟩, _⟩ := h
  obtain ⟨hb, cur, hc⟩ := own_kind h3 hi
  exact ⟨hb, lt_of_heap hc, cur, hc⟩
theorem LogOf.nown {B : Nat} {w : World} {P D I : Nat} {rv : Value} {l : Lg} {d : Dsk} (h : LogOf B w P D I rv l d) (k : Nat) (cur : Array Value) (hc : w.heap[k]? = some (.cells cur 5 (0, 0))) (hk : k ≠ I) : ¬ LgOwn P I rv k := by
  obtain ⟨_, _, _, r3⟩ := LgAt.hR (av := av0.with I) h.1
  rintro (q | q | q)
  · subst q
    have q2 := LgAt.hP (av := av0.with I) h.1
    rw [hc] at q2
    exact absurd (Obj.cells.inj (Option.some.inj q2)).2.1 (by decide)
  · exact hk q
  · obtain ⟨cur', hc'⟩ := (own_kind r3 q).2
    rw [hc] at hc'
    exact absurd (Obj.cells.inj (Option.some.inj hc')).2.1 (by decide)
theorem AllAt.keep {B : Nat} {w w' : World} {v : Value} {rs : List (List Int)} {P D I : Nat} {rv rv' : Value} {l : Lg} {d : Dsk} (h : AllAt B w v rs P I rv) (hl : LogOf B w P D I rv l d) (hk : LKeep (LgOwn P I rv) w w') (ho : ∀ i, i < w.heap.size → LgOwn P I rv' i → LgOwn P I rv i) : AllAt B w' v rs P I rv' :=
  h.move (fun k cur hc hn => ⟨hk.all k _ hc (hl.nown k cur hc hn), hn⟩) (fun k cur hc hv => hk.all k _ hc (h.2 k hv)) (fun i hi q => h.2 i hi (ho i (h.kind i hi).2.1 q))
theorem AllAt.chg {B : Nat} {w w' : World} {v : Value} {rs : List (List Int)} {P D I : Nat} {rv : Value} {l : Lg} {d : Dsk} (h : AllAt B w v rs P I rv) (hl : LogOf B w P D I rv l d) (hk : LChg B (LgOwn P I rv) w w') : AllAt B w' v rs P I rv :=
  h.move (fun k cur hc hn => ⟨hk.keep k _ hc rfl (hl.nown k cur hc hn), hn⟩) (fun k cur hc hv => hk.keep k _ hc rfl (h.2 k hv)) h.2
theorem AllAt.below {B : Nat} {w w' : World} {v : Value} {rs : List (List Int)} {P I : Nat} {rv : Value} (h : AllAt B w v rs P I rv) (hk : Below w.heap.size w w') : AllAt B w' v rs P I rv :=
  h.move (fun k cur hc hn => ⟨(hk.block k (lt_of_heap hc)).trans hc, hn⟩) (fun k cur hc hv => (hk.block k (lt_of_heap hc)).trans hc) h.2
/-- the log is opened anew -/
theorem AllAt.renew {B : Nat} {w w' : World} {v : Value} {rs : List (List Int)} {P I P' I' : Nat} {rv rv' : Value} (h : AllAt B w v rs P I rv) (hk : Chg B DK w w') (hP : w.heap.size ≤ P') (hI : w.heap.size ≤ I') (hr : ∀ i, i < w.heap.size → rv'.ownBlock ≠ some i) : AllAt B w' v rs P' I' rv' :=
  h.move (fun k cur hc hn => ⟨hk.keep k _ hc rfl, by have := lt_of_heap hc; omega⟩) (fun k cur hc hv => hk.keep k _ hc rfl) (fun i hi q => by
    have hlt := (h.kind i hi).2.1
    rcases q with q | q | q
    · omega
    · omega
    · exact hr i hlt q)
theorem AllAt.in_ {B : Nat} {w : World} {v : Value} {rs : List (List Int)} {P I : Nat} {rv : Value} (h : AllAt B w v rs P I rv) (hn : rs.length ≤ 1000000) (hr : ∀ r ∈ rs, r.length ≤ 1000000) : RowsIn w v rs := RowsAt.in_ (av := av0.with I) h.1 hn hr
/-- one copy more -/
theorem AllAt.snoc {B : Nat} {w w1 w' : World} {v v' u : Value} {rs : List (List Int)} {b : List Int} {vs : List Value} {P D I : Nat} {rv : Value} {l : Lg} {d : Dsk} (h4 : ∀ i, v.ownBlock = some i → ¬ LgOwn P I rv i) (hl : LogOf B w P D I rv l d) (h1 : vs.length = rs.length) (h2 : ∀ p ∈ rs.zip vs, Byts (av := av0.with I) w p.2 p.1) (hb : Below w.heap.size w w1) (hby : IsBy b) (hu : w1.ownsRow w.heap.size 5 1 u b.length (b.map (Value.int .u8)))
    (ho : w'.ownsRow B 22 1 v' (rs.length + 1) (vs ++ [u])) (hg : w1.grownBy w' v.ownBlock) (hv : v'.ownBlock = v.ownBlock ∨ ∃ b, v'.ownBlock = some b ∧ w1.heap.size ≤ b) (hvk : ∀ i, v.ownBlock = some i → ∃ cur, w.heap[i]? = some (.cells cur 22 (0, 0))) : AllAt B w' v' (rs ++ [b]) P I rv := by
  have hn := hl.nums
  have hub : Byts (av := av0.with I) w1 u b := ⟨⟨hby, fun g hgg q => by
    have := (own_kind hu hgg).1
    rcases q with q | q
    · exact q
    · omega⟩, own_base hu (Nat.zero_le _)⟩
  refine ⟨RowsAt.put (av := av0.with I) (w := w1) (rv := v) h1 (fun p hp => Byts.below (av := av0.with I) (h2 p hp) hb) ho hub (fun g cur hh => (hg.block g (lt_of_heap hh) (fun q => by
    obtain ⟨cur', hc⟩ := hvk g q.symm
    rw [(hb.block g (lt_of_heap hc)).trans hc] at hh
    exact absurd (Obj.cells.inj (Option.some.inj hh)).2.1 (by decide))).trans hh), fun i hi q => ?_⟩
  rcases hv with hv | ⟨b', hv, hlt⟩
  · exact h4 i (hv ▸ hi) q
  · rw [hv] at hi
    cases hi
    have := hl.ownlt _ q
    have := hb.size
    omega
end Dk
end Go.Proofs.YtcjhligknhpadaaDoor

namespace Go.Proofs.YtcjhligknhpadaaDoor
open Go.RowKit Go.Proofs.YtcjhligknhpadaaDoor.Wp Go.Proofs.YtcjhligknhpadaaDoorW.PrintWords Go.Proofs.YtcjhligknhpadaaDoorW.PrintLast
set_option linter.unusedVariables false
set_option linter.unusedSimpArgs false
namespace Dk

/-- a round of the outer loop -/
def LGa (w : World) (D : Nat) (ps : List (List (List Int))) (lv v i : Value) (wr : World) : Prop :=
  ∃ k : Nat, k ≤ ps.length ∧ k ≤ 8 ∧ i = .int .i64 k ∧ ∃ P I rv l d, lv = .pointer (some ⟨P, 0, none⟩) ∧ LogOf w.heap.size wr P D I rv l d ∧ l.first = 2 ∧ l.S = 50 ∧ AllAt w.heap.size wr v l.recs P I rv ∧ Below w.heap.size w wr ∧ d.N = 60 ∧ d.log.length ≤ 51 + k * 102 ∧ d.syncs.length ≤ 2 + k * 4
/-- a round of the inner one -/
def LGb (w : World) (P D I : Nat) (d : Dsk) (fs : List (List Int)) (v i : Value) (wr : World) : Prop :=
  ∃ j : Nat, j ≤ fs.length ∧ j ≤ 20 ∧ i = .int .i64 j ∧ ∃ rv l, LogOf w.heap.size wr P D I rv l d ∧ l.first = 2 ∧ l.S = 50 ∧ AllAt w.heap.size wr v l.recs P I rv ∧ Below w.heap.size w wr
set_option maxHeartbeats 4000000 in
set_option maxRecDepth 100000 in
theorem goes_walk (v0 : Value) (w : World) (ht : Tab w) {ps : List (List (List Int))} (h0 : PartsIn w v0 ps) : Calls Tryd.prog 5 #[v0] w fun e w' => e = .returned (.bool true) ∧ Below w.heap.size w w' := by
  have hp0 := ht.pos
  have HT := Lib.hid ht
  obtain ⟨a0, c0, rfl, n0, r0⟩ := h0
  have R0 := Lib.hid r0
  clear ht r0
  go_enter Tryd.func5, Tryd.ntmps5
  go_wp2_with fail
  refine (new_dkof w.heap.size 60 _ (Nat.le_refl _) (by decide) (by decide)).mono ?_
  rintro e w2 ⟨D, rfl, hi2, hb2⟩
  have HI2 := Lib.hid hi2
  have HB2 := Lib.hid hb2
  clear hi2 hb2
  go_wp2_with fail
  refine (log_format w.heap.size D 2 50 (Dsk.new 60) w2 HI2.out HB2.out.size (by decide) (by decide) (by decide) (by decide) (by decide)).mono ?_
  rintro e w3 ⟨rfl, hi3, hc3, hs3⟩
  generalize w2.heap.size + 1 = P at hi3 ⊢
  generalize w2.heap.size = I at hi3 hs3 ⊢
  have hd1l := (foD_fields (Dsk.new 60) 2 50).2.2.1
  have hd1s := (foD_fields (Dsk.new 60) 2 50).2.2.2
  have hd1N := (foD_fields (Dsk.new 60) 2 50).1
  rw [show (Dsk.new 60).log.length = 0 from rfl] at hd1l
  rw [show (Dsk.new 60).syncs.length = 0 from rfl] at hd1s
  generalize foD 2 50 (Dsk.new 60) = d1 at hi3 hd1l hd1s hd1N ⊢
  have HI3 := Lib.hid hi3
  have HB3 := Lib.hid (HB2.out.trans hc3.below)
  clear hi3 hc3 hs3
  go_wp2_with (go_at_call 10; refine (alive_any _ (HT.out.mono HB3.out hp0)).mono ?_; rintro e w4 ⟨rfl, hb4⟩; have HB4 := Lib.hid hb4; clear hb4)
  have hi4 := HI3.out.below HB4.out
  have hb4 := HB3.out.trans (HB4.out.mono HB3.out.size)
  go_loopw [5, 7, 8] (fun lv v i wr => LGa w D ps lv v i wr) (fun _ _ i _ => ps.length + 1 - (intOf i).toNat)
  case atStart => exact ⟨0, Nat.zero_le _, by omega, rfl, P, I, _, _, d1, rfl, hi4, rfl, rfl, ⟨⟨[], rfl, (by intro p hp; simp [Lg.new] at hp), World.ownsRow_nil _ _ _ _⟩, fun i hi => by cases hi⟩, hb4, hd1N, by omega, by omega⟩
  case round =>
    obtain ⟨k, hk, hk8, rfl, P, I, rv, l, d, rfl, hl, hx, hS, ha, hb, hdN, hdl, hds⟩ := hrel
    have HLo := Lib.hid hl
    have HAo := Lib.hid ha
    have HBo := Lib.hid hb
    clear hl ha hb
    by_cases hkc : k < ps.length ∧ k < 8
    · obtain ⟨hkl, hk7⟩ := hkc
      have t1 : decide ((k : Int) < (ps.length : Int)) = true := decide_eq_true (by omega)
      have t2 : decide ((k : Int) < 8) = true := decide_eq_true (by omega)
      obtain ⟨ad, u, rfl, hcu, hru⟩ := R0.out k hkl
      have HCU := Lib.hid (show ∀ W, Below w.heap.size w W → W.cell? (ad.add k) = some u from fun W hb => below_cells hb _ _ hcu)
      obtain ⟨ub, uc, hue, hun, hur⟩ := hru
      subst hue
      have HUR := Lib.hid hur
      generalize hfs : ps[k] = fs at hun HUR HCU ⊢
      clear hcu hur hfs
      go_wp2_with fail
      go_loopw [7, 9] (fun v i wr => LGb w P D I d fs v i wr) (fun _ i _ => 21 - (intOf i).toNat)
      case atStart => exact ⟨0, Nat.zero_le _, by omega, rfl, rv, l, HLo.out, hx, hS, HAo.out, HBo.out⟩
      case round =>
        clear hx hS HLo HAo HBo
        obtain ⟨j, hj, hj20, rfl, rv, l, hl, hx, hS, ha, hb⟩ := hrel
        have HL := Lib.hid hl
        have HA := Lib.hid ha
        have HB := Lib.hid hb
        have hcw := HCU.out _ hb
        have hrl := hl.2.2.1.recs_le
        rw [hS] at hrl
        obtain ⟨_, _, _, ho⟩ := ha.1
        obtain ⟨aa, ac, rfl⟩ := own_slice ho
        clear hl ha hb ho
        by_cases hjc : j < fs.length ∧ j < 20
        · obtain ⟨hjl, hj19⟩ := hjc
          have t3 : decide ((j : Int) < (fs.length : Int)) = true := decide_eq_true (by omega)
          have t4 : decide ((j : Int) < 20) = true := decide_eq_true (by omega)
          obtain ⟨ad2, u2, rfl, hcu2, hbu2⟩ := HUR.out j hjl
          have hcw2 := below_cells HB.out _ _ hcu2
          have HAP := Lib.hid (log_append_in w.heap.size w wr P D I rv l d u2 fs[j] HL.out (Nat.le_refl _) hp0 HT.out hp0 hbu2 HB.out)
          have HBU := Lib.hid hbu2
          obtain ⟨ua, uc2, hue2⟩ : ∃ ua uc2, u2 = .slice ua fs[j].length uc2 := by obtain ⟨a, c, q, _⟩ := HBU.out; exact ⟨a, c, q⟩
          subst hue2
          clear hbu2
          generalize hul : fs[j].length = ul at *
          generalize hcd : appC l fs[j] = cd at HAP
          by_cases hz : cd = 0
          · subst hz
            have hrs := appL_yes hcd
            have hfit := (appC_zero l fs[j]).1 hcd
            obtain ⟨sm1, sm2, sm3⟩ := appL_same l fs[j]
            have hul2 : ul ≤ 8192 := by rw [← hul]; exact hfit.2.1
            go_wp2_with (first | (go_at_call 11; refine HAP.out.mono ?_; rintro e w5 ⟨rfl, rv', hl5, hk5, ho5⟩; have HL5 := Lib.hid hl5; have HA5 := Lib.hid (HA.out.keep HL.out hk5 ho5); have HB5 := Lib.hid (HB.out.trans (hk5.low HB.out.size HL.out.own)); have hbA : Below w5.heap.size w5 (w5.alloc (.cells #[] 5)) := (Below.refl _ _).alloc (Nat.le_refl _) _; have HBA := Lib.hid (HB5.out.trans (hbA.mono HB5.out.size)); have hcw5 := HCU.out _ HBA.out; have hcw25 := below_cells HBA.out _ _ hcu2; have HRI := Lib.hid (show ReadsInt (w5.alloc (.cells #[] 5)) .u8 ua ul fs[j] from ⟨hul, by omega, fun hpos => by obtain ⟨aq, cq, e1, e2, e3, e4⟩ := HBU.out.mono (below_cells HBA.out); simp only [Value.slice.injEq] at e1; obtain ⟨adq, f1, f2⟩ := e4 0 (by omega); rw [← e1.1] at f1; exact ⟨adq, f1, fun jj hjj => by obtain ⟨ad3, f3, f4⟩ := e4 jj (by omega); rw [← e1.1, f1] at f3; cases f3; exact f4⟩⟩); obtain ⟨⟨vs, g1, g2, g3⟩, g4⟩ := HA5.out; have G1 := Lib.hid g1; have G2 := Lib.hid g2; have G3 := Lib.hid g3; have G4 := Lib.hid g4; clear hl5 hk5 ho5 g1 g2 g3 g4) | (at_builtin; refine print_append_row (w0 := w5) (W := w5.alloc (.cells #[] 5)) w5.heap.size rfl _ _ 22 5 .u8 1 rfl Tryd.underlying22 info_u8 (by decide) (.slice (some ⟨w5.heap.size, 0, none⟩) 0 0) [] fs[j] ua ul uc2 rfl rfl (World.ownsRow_made w5 #[] 0 (Nat.le_refl _) (by decide) rfl) HRI.out ((Below.refl _ _).alloc (Nat.le_refl _) _) (by simp) (by simp; omega) ?_; intro u6 w6 hu6 hb6 hg6 hat6; rw [List.nil_append, hul] at hu6; obtain ⟨ua6, uc6, rfl⟩ := own_slice hu6; have HU6 := Lib.hid hu6; have HB6 := Lib.hid hb6; clear hu6 hb6 hg6 hat6) | (at_builtin; refine print_append_cells (w0 := w6) (W := w6) w.heap.size rfl _ _ 30 22 (.slice none 0 0) 1 24 rfl Tryd.underlying30 info_sl rfl (by decide) (by decide) (.slice aa l.recs.length ac) l.recs.length vs [.slice ua6 ul uc6] rfl rfl rfl (by intro v hv; rw [List.mem_singleton.1 hv]; rfl) (own_up G3.out HB6.out) (Below.refl _ _) (Nat.le_trans HB5.out.size HB6.out.size) (by omega) ?_))
            intro v8 w8 h8 hb8 hg8 hv8
            have hb5s := HB5.out.size
            have hb6s := HB6.out.size
            have hkd := fun i hi => (AllAt.kind HA5.out i hi)
            have hl8 := (HL5.out.below HB6.out).out (Value.slice aa l.recs.length ac).ownBlock (fun i o ho hn => (hg8.block i (lt_of_heap ho) hn).trans ho) (fun i hi => ⟨by obtain ⟨_, q2, cur, q3⟩ := hkd i hi; exact ⟨cur, (HB6.out.block i q2).trans q3⟩, fun q => G4.out i hi (.inr (.inr q))⟩)
            have ha8 := AllAt.snoc G4.out HL5.out G1.out G2.out HB6.out HBU.out.choose_spec.choose_spec.2.1 (by rw [hul]; exact HU6.out) h8 hg8 hv8 (fun i hi => (hkd i hi).2.2)
            have hb8' := (HB5.out.trans (HB6.out.mono hb5s)).trans (⟨hg8.os, hg8.tape, hg8.output, hg8.size, fun i hi => hg8.block i (by omega) (fun q => by have := (hkd i q.symm).1; omega)⟩ : Below w.heap.size w6 w8)
            have HL8 := Lib.hid hl8
            have HA8 := Lib.hid ha8
            have HB8 := Lib.hid hb8'
            clear hl8 ha8 hb8' h8 hb8 hg8 hv8 hkd
            go_wp2_with fail
            go_roundw
            case rel => exact ⟨j + 1, hjl, by omega, by go_num, rv', _, HL8.out, sm1.trans hx, sm2.trans hS, by rw [hrs]; exact HA8.out, HB8.out⟩
            case measure => simp [intOf]; omega
          · have hz' : (cd == 0) = false := by simpa using hz
            have hls := appL_no (by rw [hcd]; exact hz)
            rw [hls] at HAP
            go_wp2_with (go_at_call 11; refine HAP.out.mono ?_; rintro e w5 ⟨rfl, rv', hl5, hk5, ho5⟩; have HL5 := Lib.hid hl5; have HA5 := Lib.hid (HA.out.keep HL.out hk5 ho5); have HB5 := Lib.hid (HB.out.trans (hk5.low HB.out.size HL.out.own)); clear hl5 hk5 ho5)
            go_roundw
            case rel => exact ⟨j + 1, hjl, by omega, by go_num, rv', l, HL5.out, hx, hS, HA5.out, HB5.out⟩
            case measure => simp [intOf]; omega
        · by_cases hjl : j < fs.length
          · have t3 : decide ((j : Int) < (fs.length : Int)) = true := decide_eq_true (by omega)
            have t4 : decide ((j : Int) < 20) = false := decide_eq_false (by omega)
            have hgd := HL.out.2.2.1
            have hfd := flD_fields hgd
            rw [hS] at hfd
            have hall := all_left hgd ([] : List Bool)
            rw [hx, hS] at hall
            have hof := open_flushed hgd
            rw [hx, hS] at hof
            have hfin := hgd.fin
            have hrok : ∀ r ∈ l.recs, r.length ≤ 1000000 := fun r hr => by have := hgd.ok r hr; omega
            have HFL := Lib.hid (log_flush w.heap.size wr P D I _ l d HL.out HB.out.size (by rw [hS]; omega) (by omega))
            have hS2 : (flL l).S = 50 := hS
            have hf2 : (flL l).fin = l.fin := rfl
            generalize flD l d = d2 at hfd hall hof HFL
            generalize flL l = l2 at hS2 hf2 HFL
            obtain ⟨fz, hfz⟩ : ∃ fz : Int, fz = (50 : Int) * 128 - (l.fin : Int) := ⟨_, rfl⟩
            obtain ⟨nr, hnr⟩ : ∃ nr, nr = l.recs.length := ⟨_, rfl⟩
            have hd2N : d2.N = 60 := by rw [hfd.1]; exact hdN
            have hd2l : d2.log.length ≤ 102 + k * 102 := by omega
            have hd2s : d2.syncs.length ≤ 4 + k * 4 := by omega
            obtain ⟨dl, hdl⟩ : ∃ dl, dl = leftD d2 (safeOf d2) d2.log.length [] := ⟨_, rfl⟩
            rw [← hdl] at hall
            have hdlN : dl.N = 60 := by rw [hdl]; exact hd2N
            have hdll : dl.log = [] := by rw [hdl]; rfl
            have hdls : dl.syncs = [] := by rw [hdl]; rfl
            have HALL := Lib.hid hall
            have HOF := Lib.hid hof
            have HFIN := Lib.hid hfin
            have HFZ := Lib.hid hfz
            have HDL := Lib.hid hdl
            have HROK := Lib.hid hrok
            have HRL := Lib.hid hrl
            have HNR := Lib.hid hnr
            have HN := Lib.hid (And.intro hd2N (And.intro hd2l (And.intro hd2s (And.intro hdlN (And.intro hdll hdls)))))
            have HS2 := Lib.hid (And.intro hS2 hf2)
            rw [← hnr]
            clear hgd hfd hall hof hfin hrok hd2N hd2l hd2s hdl hdlN hdll hdls hfz hnr hS2 hf2
            go_wp2_with (first | (go_at_call 12; refine HFL.out.mono ?_; rintro e w5 ⟨rfl, hl5, hc5⟩; have HL5 := Lib.hid hl5; have HA5 := Lib.hid (AllAt.chg HA.out HL.out hc5); have HB5 := Lib.hid (HB.out.trans hc5.below); have HFR := Lib.hid (show ∀ W, Below w5.heap.size w5 W → Calls Tryd.prog 15 #[.pointer (some ⟨P, 0, none⟩)] W fun e w' => e = .returned (.int .i64 fz) ∧ ∃ n, w' = W.drewN n from fun W hW => by have q := log_free _ _ _ _ _ _ _ _ (hl5.below hW); rw [HS2.out.1, HS2.out.2] at q; rw [HFZ.out]; exact q); clear hl5 hc5) | (go_at_call 25; refine (dk_cut w.heap.size w5.heap.size w5 D d2 (.slice none 0 0) [] HL5.out.dk (by have := HN.out; omega) (by have := HN.out; omega) (Nat.le_refl _) ⟨none, 0, rfl, by simp, fun j hj => by simp at hj⟩).mono ?_; rintro e w6 ⟨C, rfl, hC, hb6⟩; rw [← HDL.out] at hC; have HC := Lib.hid hC; have HB6 := Lib.hid hb6; clear hC hb6) | (go_at_call 9; refine (log_open w5.heap.size C 2 50 dl w6 HC.out (by have := HB5.out.size; omega) HB6.out.size (HT.out.mono (HB5.out.trans (HB6.out.mono HB5.out.size)) hp0) (by decide) (by decide) (by rw [HN.out.2.2.2.1]; decide) (by rw [HN.out.2.2.2.2.1]; decide) (by rw [HN.out.2.2.2.2.2]; decide)).mono ?_; rintro e w7 ⟨rfl, rvm, hlm, hcm, _⟩; have HB7 := Lib.hid (HB6.out.trans hcm.below); generalize hP2 : w6.heap.size + 1 = P2 at hlm ⊢; generalize hI2 : w6.heap.size = I2 at hlm; have hmr : (opL 2 50 dl).recs = l.recs := HALL.out; have hmS := opL_S 2 50 dl; have hmf := opL_flushed 2 50 dl; generalize opL 2 50 dl = lm at hlm hmr hmS hmf; have hmfin := hlm.2.2.1.fin; rw [hmr, ← HFIN.out] at hmfin; have HREC := Lib.hid (show Calls Tryd.prog 13 #[.pointer (some ⟨P2, 0, none⟩)] w7 fun e w' => ∃ ov, e = .returned ov ∧ RowsIn w' ov l.recs ∧ Below w7.heap.size w7 w' from by refine (log_records w5.heap.size w7 P2 C I2 rvm lm _ hlm).mono ?_; rintro e w' ⟨ov, rfl, q1, q2⟩; rw [hmr] at q1; exact ⟨ov, rfl, RowsAt.in_ (av := av0.with I2) q1 (by have := HRL.out; omega) HROK.out, q2⟩); have HFRM := Lib.hid (show ∀ W, Below w7.heap.size w7 W → Calls Tryd.prog 15 #[.pointer (some ⟨P2, 0, none⟩)] W fun e w' => e = .returned (.int .i64 fz) ∧ ∃ n, w' = W.drewN n from fun W hW => by have q := log_free _ _ _ _ _ _ _ _ (hlm.below hW); rw [hmS, hmfin] at q; rw [HFZ.out]; exact q); have HFLM := Lib.hid (show ∀ W, Below w7.heap.size w7 W → Calls Tryd.prog 14 #[.pointer (some ⟨P2, 0, none⟩)] W fun e w' => e = .returned (.int .i64 nr) ∧ W = w' from fun W hW => by have q := flushed_any (av := av0.with I2) w5.heap.size W P2 C lm ⟨_, _, (hlm.below hW).1⟩; rw [hmf, hmr, ← HNR.out] at q; exact q); clear hlm hcm hP2 hI2 hmr hmS hmf hmfin HC) | (go_at_call 13; refine HREC.out.mono ?_; rintro e w8 ⟨ov, rfl, hov, hb8⟩; have HOV := Lib.hid hov; have HB8 := Lib.hid (hb8); have HB58 := Lib.hid (HB7.out.trans (hb8.mono HB7.out.size)); have HSM := Lib.hid (show Calls Tryd.prog 23 #[ov, .slice aa nr ac] w8 fun e w' => e = .returned (.bool true) ∧ ∃ n, w' = w8.drewN n from by have q := same_rows w8 ov (.slice aa nr ac) l.recs l.recs HOV.out (by have q2 := (HA5.out.below HB58.out).in_ (by have := HRL.out; omega) HROK.out; rw [← HNR.out] at q2; exact q2); rw [show decide (l.recs = l.recs) = true by simp] at q; exact q); clear hov hb8) | (go_at_call 23; refine HSM.out.mono ?_; rintro e w9 ⟨rfl, n9, rfl⟩) | (go_at_call 15; refine (HFRM.out _ (HB8.out.trans (Below.mono (by first | exact Below.refl _ _ | exact below_drewN (Below.refl _ _) _ | exact below_drewN (below_drewN (Below.refl _ _) _) _ | exact below_drewN (below_drewN (below_drewN (Below.refl _ _) _) _) _) HB8.out.size))).mono ?_; rintro e w9 ⟨rfl, n10, rfl⟩; clear HFRM) | (go_at_call 15; refine (HFR.out _ (HB58.out.trans (Below.mono (by first | exact Below.refl _ _ | exact below_drewN (Below.refl _ _) _ | exact below_drewN (below_drewN (Below.refl _ _) _) _ | exact below_drewN (below_drewN (below_drewN (Below.refl _ _) _) _) _) HB58.out.size))).mono ?_; rintro e w9 ⟨rfl, n11, rfl⟩) | (go_at_call 14; refine (HFLM.out _ (HB8.out.trans (Below.mono (by first | exact Below.refl _ _ | exact below_drewN (Below.refl _ _) _ | exact below_drewN (below_drewN (Below.refl _ _) _) _ | exact below_drewN (below_drewN (below_drewN (Below.refl _ _) _) _) _) HB8.out.size))).mono ?_; rintro e w9 ⟨rfl, rfl⟩))
            have hb89 := below_drewN (Below.refl w8.heap.size w8) (n9 + n10 + n11)
            generalize w8.drewN (n9 + n10 + n11) = w9 at hb89 ⊢
            have hb59 := HB58.out.trans (hb89.mono HB58.out.size)
            have hdk9 := HL5.out.dk.below hb59
            have ha9 := HA5.out.below hb59
            have hb9 := HB5.out.trans (hb59.mono HB5.out.size)
            refine (log_open w.heap.size D 2 50 d2 w9 hdk9 hp0 hb9.size (HT.out.mono hb9 hp0) (by decide) (by decide) (by rw [HN.out.1]; decide) (by have := HN.out; omega) (by have := HN.out; omega)).mono ?_
            rintro e w10 ⟨rfl, rv3, hl10, hc10, ho10⟩
            have hor := HOF.out
            have h10S := opL_S 2 50 d2
            have h10x := opL_first 2 50 d2
            have h10d := opD_fields hdk9.2.1 2 50
            generalize opL 2 50 d2 = l10 at hl10 hor h10S h10x
            generalize opD 2 50 d2 = d10 at hl10 h10d
            have ha10 : AllAt w.heap.size w10 (.slice aa nr ac) l10.recs (w9.heap.size + 1) w9.heap.size rv3 := by
              rw [hor, HNR.out]
              exact ha9.renew hc10 (Nat.le_succ _) (Nat.le_refl _) ho10
            have HL10 := Lib.hid hl10
            have HA10 := Lib.hid ha10
            have HB10 := Lib.hid (hb9.trans hc10.below)
            have H10 := Lib.hid (And.intro h10x (And.intro h10S h10d))
            clear hb89 hb59 hdk9 ha9 hb9 hl10 hc10 ho10 hor h10S h10x h10d ha10
            go_wp2_with fail
            go_roundw
            case rel =>
              have q := H10.out
              have q2 := HN.out
              exact ⟨k + 1, hkl, by omega, by go_num, _, _, rv3, l10, d10, rfl, HL10.out, q.1, q.2.1, HA10.out, HB10.out, by rw [q.2.2.1]; exact q2.1, by omega, by omega⟩
            case measure => simp [intOf]; omega
          · have t3 : decide ((j : Int) < (fs.length : Int)) = false := decide_eq_false (by omega)
            have hgd := HL.out.2.2.1
            have hfd := flD_fields hgd
            rw [hS] at hfd
            have hall := all_left hgd ([] : List Bool)
            rw [hx, hS] at hall
            have hof := open_flushed hgd
            rw [hx, hS] at hof
            have hfin := hgd.fin
            have hrok : ∀ r ∈ l.recs, r.length ≤ 1000000 := fun r hr => by have := hgd.ok r hr; omega
            have HFL := Lib.hid (log_flush w.heap.size wr P D I _ l d HL.out HB.out.size (by rw [hS]; omega) (by omega))
            have hS2 : (flL l).S = 50 := hS
            have hf2 : (flL l).fin = l.fin := rfl
            generalize flD l d = d2 at hfd hall hof HFL
            generalize flL l = l2 at hS2 hf2 HFL
            obtain ⟨fz, hfz⟩ : ∃ fz : Int, fz = (50 : Int) * 128 - (l.fin : Int) := ⟨_, rfl⟩
            obtain ⟨nr, hnr⟩ : ∃ nr, nr = l.recs.length := ⟨_, rfl⟩
            have hd2N : d2.N = 60 := by rw [hfd.1]; exact hdN
            have hd2l : d2.log.length ≤ 102 + k * 102 := by omega
            have hd2s : d2.syncs.length ≤ 4 + k * 4 := by omega
            obtain ⟨dl, hdl⟩ : ∃ dl, dl = leftD d2 (safeOf d2) d2.log.length [] := ⟨_, rfl⟩
            rw [← hdl] at hall
            have hdlN : dl.N = 60 := by rw [hdl]; exact hd2N
            have hdll : dl.log = [] := by rw [hdl]; rfl
            have hdls : dl.syncs = [] := by rw [hdl]; rfl
            have HALL := Lib.hid hall
            have HOF := Lib.hid hof
            have HFIN := Lib.hid hfin
            have HFZ := Lib.hid hfz
            have HDL := Lib.hid hdl
            have HROK := Lib.hid hrok
            have HRL := Lib.hid hrl
            have HNR := Lib.hid hnr
            have HN := Lib.hid (And.intro hd2N (And.intro hd2l (And.intro hd2s (And.intro hdlN (And.intro hdll hdls)))))
            have HS2 := Lib.hid (And.intro hS2 hf2)
            rw [← hnr]
            clear hgd hfd hall hof hfin hrok hd2N hd2l hd2s hdl hdlN hdll hdls hfz hnr hS2 hf2
            go_wp2_with (first | (go_at_call 12; refine HFL.out.mono ?_; rintro e w5 ⟨rfl, hl5, hc5⟩; have HL5 := Lib.hid hl5; have HA5 := Lib.hid (AllAt.chg HA.out HL.out hc5); have HB5 := Lib.hid (HB.out.trans hc5.below); have HFR := Lib.hid (show ∀ W, Below w5.heap.size w5 W → Calls Tryd.prog 15 #[.pointer (some ⟨P, 0, none⟩)] W fun e w' => e = .returned (.int .i64 fz) ∧ ∃ n, w' = W.drewN n from fun W hW => by have q := log_free _ _ _ _ _ _ _ _ (hl5.below hW); rw [HS2.out.1, HS2.out.2] at q; rw [HFZ.out]; exact q); clear hl5 hc5) | (go_at_call 25; refine (dk_cut w.heap.size w5.heap.size w5 D d2 (.slice none 0 0) [] HL5.out.dk (by have := HN.out; omega) (by have := HN.out; omega) (Nat.le_refl _) ⟨none, 0, rfl, by simp, fun j hj => by simp at hj⟩).mono ?_; rintro e w6 ⟨C, rfl, hC, hb6⟩; rw [← HDL.out] at hC; have HC := Lib.hid hC; have HB6 := Lib.hid hb6; clear hC hb6) | (go_at_call 9; refine (log_open w5.heap.size C 2 50 dl w6 HC.out (by have := HB5.out.size; omega) HB6.out.size (HT.out.mono (HB5.out.trans (HB6.out.mono HB5.out.size)) hp0) (by decide) (by decide) (by rw [HN.out.2.2.2.1]; decide) (by rw [HN.out.2.2.2.2.1]; decide) (by rw [HN.out.2.2.2.2.2]; decide)).mono ?_; rintro e w7 ⟨rfl, rvm, hlm, hcm, _⟩; have HB7 := Lib.hid (HB6.out.trans hcm.below); generalize hP2 : w6.heap.size + 1 = P2 at hlm ⊢; generalize hI2 : w6.heap.size = I2 at hlm; have hmr : (opL 2 50 dl).recs = l.recs := HALL.out; have hmS := opL_S 2 50 dl; have hmf := opL_flushed 2 50 dl; generalize opL 2 50 dl = lm at hlm hmr hmS hmf; have hmfin := hlm.2.2.1.fin; rw [hmr, ← HFIN.out] at hmfin; have HREC := Lib.hid (show Calls Tryd.prog 13 #[.pointer (some ⟨P2, 0, none⟩)] w7 fun e w' => ∃ ov, e = .returned ov ∧ RowsIn w' ov l.recs ∧ Below w7.heap.size w7 w' from by refine (log_records w5.heap.size w7 P2 C I2 rvm lm _ hlm).mono ?_; rintro e w' ⟨ov, rfl, q1, q2⟩; rw [hmr] at q1; exact ⟨ov, rfl, RowsAt.in_ (av := av0.with I2) q1 (by have := HRL.out; omega) HROK.out, q2⟩); have HFRM := Lib.hid (show ∀ W, Below w7.heap.size w7 W → Calls Tryd.prog 15 #[.pointer (some ⟨P2, 0, none⟩)] W fun e w' => e = .returned (.int .i64 fz) ∧ ∃ n, w' = W.drewN n from fun W hW => by have q := log_free _ _ _ _ _ _ _ _ (hlm.below hW); rw [hmS, hmfin] at q; rw [HFZ.out]; exact q); have HFLM := Lib.hid (show ∀ W, Below w7.heap.size w7 W → Calls Tryd.prog 14 #[.pointer (some ⟨P2, 0, none⟩)] W fun e w' => e = .returned (.int .i64 nr) ∧ W = w' from fun W hW => by have q := flushed_any (av := av0.with I2) w5.heap.size W P2 C lm ⟨_, _, (hlm.below hW).1⟩; rw [hmf, hmr, ← HNR.out] at q; exact q); clear hlm hcm hP2 hI2 hmr hmS hmf hmfin HC) | (go_at_call 13; refine HREC.out.mono ?_; rintro e w8 ⟨ov, rfl, hov, hb8⟩; have HOV := Lib.hid hov; have HB8 := Lib.hid (hb8); have HB58 := Lib.hid (HB7.out.trans (hb8.mono HB7.out.size)); have HSM := Lib.hid (show Calls Tryd.prog 23 #[ov, .slice aa nr ac] w8 fun e w' => e = .returned (.bool true) ∧ ∃ n, w' = w8.drewN n from by have q := same_rows w8 ov (.slice aa nr ac) l.recs l.recs HOV.out (by have q2 := (HA5.out.below HB58.out).in_ (by have := HRL.out; omega) HROK.out; rw [← HNR.out] at q2; exact q2); rw [show decide (l.recs = l.recs) = true by simp] at q; exact q); clear hov hb8) | (go_at_call 23; refine HSM.out.mono ?_; rintro e w9 ⟨rfl, n9, rfl⟩) | (go_at_call 15; refine (HFRM.out _ (HB8.out.trans (Below.mono (by first | exact Below.refl _ _ | exact below_drewN (Below.refl _ _) _ | exact below_drewN (below_drewN (Below.refl _ _) _) _ | exact below_drewN (below_drewN (below_drewN (Below.refl _ _) _) _) _) HB8.out.size))).mono ?_; rintro e w9 ⟨rfl, n10, rfl⟩; clear HFRM) | (go_at_call 15; refine (HFR.out _ (HB58.out.trans (Below.mono (by first | exact Below.refl _ _ | exact below_drewN (Below.refl _ _) _ | exact below_drewN (below_drewN (Below.refl _ _) _) _ | exact below_drewN (below_drewN (below_drewN (Below.refl _ _) _) _) _) HB58.out.size))).mono ?_; rintro e w9 ⟨rfl, n11, rfl⟩) | (go_at_call 14; refine (HFLM.out _ (HB8.out.trans (Below.mono (by first | exact Below.refl _ _ | exact below_drewN (Below.refl _ _) _ | exact below_drewN (below_drewN (Below.refl _ _) _) _ | exact below_drewN (below_drewN (below_drewN (Below.refl _ _) _) _) _) HB8.out.size))).mono ?_; rintro e w9 ⟨rfl, rfl⟩))
            have hb89 := below_drewN (Below.refl w8.heap.size w8) (n9 + n10 + n11)
            generalize w8.drewN (n9 + n10 + n11) = w9 at hb89 ⊢
            have hb59 := HB58.out.trans (hb89.mono HB58.out.size)
            have hdk9 := HL5.out.dk.below hb59
            have ha9 := HA5.out.below hb59
            have hb9 := HB5.out.trans (hb59.mono HB5.out.size)
            refine (log_open w.heap.size D 2 50 d2 w9 hdk9 hp0 hb9.size (HT.out.mono hb9 hp0) (by decide) (by decide) (by rw [HN.out.1]; decide) (by have := HN.out; omega) (by have := HN.out; omega)).mono ?_
            rintro e w10 ⟨rfl, rv3, hl10, hc10, ho10⟩
            have hor := HOF.out
            have h10S := opL_S 2 50 d2
            have h10x := opL_first 2 50 d2
            have h10d := opD_fields hdk9.2.1 2 50
            generalize opL 2 50 d2 = l10 at hl10 hor h10S h10x
            generalize opD 2 50 d2 = d10 at hl10 h10d
            have ha10 : AllAt w.heap.size w10 (.slice aa nr ac) l10.recs (w9.heap.size + 1) w9.heap.size rv3 := by
              rw [hor, HNR.out]
              exact ha9.renew hc10 (Nat.le_succ _) (Nat.le_refl _) ho10
            have HL10 := Lib.hid hl10
            have HA10 := Lib.hid ha10
            have HB10 := Lib.hid (hb9.trans hc10.below)
            have H10 := Lib.hid (And.intro h10x (And.intro h10S h10d))
            clear hb89 hb59 hdk9 ha9 hb9 hl10 hc10 ho10 hor h10S h10x h10d ha10
            go_wp2_with fail
            go_roundw
            case rel =>
              have q := H10.out
              have q2 := HN.out
              exact ⟨k + 1, hkl, by omega, by go_num, _, _, rv3, l10, d10, rfl, HL10.out, q.1, q.2.1, HA10.out, HB10.out, by rw [q.2.2.1]; exact q2.1, by omega, by omega⟩
            case measure => simp [intOf]; omega
    · by_cases hkl : k < ps.length
      · have t1 : decide ((k : Int) < (ps.length : Int)) = true := decide_eq_true (by omega)
        have t2 : decide ((k : Int) < 8) = false := decide_eq_false (by omega)
        go_wp2_with fail
        go_ret
        exact ⟨rfl, HBo.out⟩
      · have t1 : decide ((k : Int) < (ps.length : Int)) = false := decide_eq_false (by omega)
        go_wp2_with fail
        go_ret
        exact ⟨rfl, HBo.out⟩
end Dk
end Go.Proofs.YtcjhligknhpadaaDoor

namespace Go.Proofs.YtcjhligknhpadaaDoor.walGoes
open Go.ChangeShapes Go.WideShapes Go.ChangeAt Go.RowKit
open Go.ChangeMaps (open_string shut_string)
open Go.Joins Go.Deep
set_option linter.unusedVariables false
set_option linter.unusedSimpArgs false
set_option maxRecDepth 100000 in
theorem contract (H : Type) (enc : TypeId × Value → H) (W : World) (base : Nat) (args : Array Value) (ds gs : List (DataW H)) (before : List MemPlace)
    (hval0 : ∀ (j : Nat) t v, Tryd.f5.params[j]? = some t → args[j]? = some v → Value.okWide Tryd.prog W .any base t v)
    (hW : DataW.Whole enc Tryd.prog Tryd.f5.params.toList Rows.walGoesSpec.vars false W args.toList ds gs before)
    (hsz0 : (DataW.weightsEach Tryd.prog (Tryd.f5.params.toList ++ (OpenSpec.ofChange Rows.walGoesSpec).bare.plain.varTypes Tryd.prog) (ds ++ gs)).all (· ≤ reachBytes) = true) (hL : laidMetH Tryd.prog Rows.walGoesRow.laid W) :
    Calls Tryd.prog 5 args W fun e W' => ∃ v, e = .returned v ∧ Rows.walGoesSpec.post enc Tryd.prog Tryd.f5 false true false false W args v W' := by
  have hval := hval0
  have hW' := hW
  obtain ⟨p, q, hA0, hV, rfl, hfz, hnd⟩ := hW
  have hA : DataW.TrodAll enc Tryd.prog W 0 (fun _ => true) true Tryd.f5.params.toList args.toList ds p := hA0
  have hsz := hsz0
  rw [Tryd.params5] at hA hval hsz
  obtain ⟨v0, vs0, d0, ds0, p0, q0, hargs, rfl, rfl, h0, r0⟩ := trodAll_cons hA
  obtain ⟨rfl, rfl, rfl⟩ := trodAll_nil r0
  obtain rfl : args = #[v0] := by cases args; simp_all
  obtain ⟨rfl, rfl⟩ := trodVars_none hV
  have k0 := h0
  have lt0 : ∀ x ∈ p0, x.block < W.heap.size := by obtain ⟨m, hm⟩ := k0; exact DataW.trod_lt m _ _ _ hm
  obtain ⟨sa0, sl0, sc0, rfl⟩ := okWide_slice Tryd.underlying52 (hval 0 52 v0 rfl rfl)
  obtain ⟨x0, o0⟩ : ∃ l, Dk.PartsIn W (.slice sa0 sl0 sc0) l := by obtain ⟨m, hm⟩ := k0; exact Dk.parts_in hm
  clear hA0 hval0 hsz hsz0
  refine (Dk.goes_walk _ W (Vl.tab_of hL) o0).mono fun e W' ⟨he, bel⟩ => ?_
  subst he
  exact ⟨_, rfl, _, _, _, [], _, [], hW', trodAll_mk1 (shut_bool Tryd.underlying4 _), (trodAll_cons_mk (Below.trod Vl.laidOut (by kernel_rfl) (of_decide_eq_true (by kernel_rfl)) k0 bel lt0) trodAll_mk0), rfl, bel.frame _, fun h => by cases h⟩
theorem laid_met (os : Os) : laidMet Tryd.prog Rows.walGoesRow.laid ((Vl.laidWorld os).forCall (fun _ _ => 0) ⟨#[], #[.slice none 0 0], []⟩).memory :=
  laidMet_of_run' 8 (by kernel_rfl) (by kernel_rfl)
theorem reads (os : Os) {H : Type} (enc : TypeId × Value → H) : ∃ places, DataW.whole enc Tryd.prog ((Vl.laidWorld os).forCall (fun _ _ => 0) ⟨#[], #[.slice none 0 0], []⟩).memory Tryd.f5.params.toList Rows.walGoesSpec.vars false (#[.slice none 0 0] : Array Value).toList 8 = some ([.nil], [], places) :=
  ⟨[], by kernel_rfl⟩
set_option maxRecDepth 100000 in
theorem lifted (os : Os) (started : os.Started) (H : Type) (enc : TypeId × Value → H) (F : Stop.Interp) :
    ReturnsInHanded {} Tryd.checked os 5 .any ((OpenSpec.ofChange Rows.walGoesSpec).preRow enc Tryd.prog Tryd.f5 Rows.walGoesRow.domain false Rows.walGoesRow.laid) (((OpenSpec.ofChange Rows.walGoesSpec).at F).post enc Tryd.prog Tryd.f5 false true false false) := by
  obtain ⟨places, hx⟩ := reads os enc
  refine returnsInHanded_of_row (C := Tryd.checked) (s := OpenSpec.ofChange Rows.walGoesSpec) Vl.own started (by kernel_rfl) Tryd.func5
    (witness_row_at (enc := enc) (C := Tryd.checked) false (Vl.laidWorld os) #[.slice none 0 0] rfl (by kernel_rfl) (by kernel_rfl) (by kernel_rfl)
      (OpenSpec.preRow_of_cond 8 hx (by kernel_rfl) (fun k hk => by cases hk) (by kernel_rfl) (laid_met os))) ?_
  intro W base args ds gs before hval hW _ _ hsz hL _ _
  exact contract H enc W base args ds gs before hval hW hsz hL
theorem said : Rows.WalGoesSaid :=
  OpenClaim.holds_of_cond 5 Tryd.f5 rfl rfl rfl rfl rfl rfl rfl ⟨rfl, rfl, rfl, rfl, rfl⟩ rfl rfl rfl rfl rfl (by kernel_rfl) Tryd.func5 (by kernel_rfl)
    (of_decide_eq_true (by kernel_rfl)) (by unfold Func.isWrapper; first | (rw [if_pos (by decide +kernel)]; kernel_rfl) | (rw [if_neg (by decide +kernel)]; exact ⟨rfl, rfl⟩))
    (fun os started H enc _ F => by rw [OpenClaim.pre_eq_preRow]; exact lifted os started H enc F)
theorem plain (f : FuncId) (fn : Func) (hf : Tryd.pinned.checked.prog.funcNamed "stile/stilelaw06.WalGoes" = some f) (hfn : Tryd.pinned.checked.prog.funcs[f]? = some fn) :
    true = Tryd.pinned.checked.prog.looks [] ∧ ∀ (j : Nat) t, fn.params[j]? = some t → Tryd.pinned.checked.prog.wantsStandIn t = false := by
  obtain rfl : f = 5 := Option.some.inj ((show Tryd.prog.funcNamed "stile/stilelaw06.WalGoes" = some 5 by kernel_rfl).symm.trans hf) |>.symm
  obtain rfl : fn = Tryd.f5 := (Option.some.inj (Tryd.func5.symm.trans hfn)).symm
  refine ⟨by kernel_rfl, fun j t ht => ?_⟩
  rw [Tryd.params5] at ht
  have hm : t ∈ [52] := by simpa using Array.mem_of_getElem? ht
  have hall : ([52].all fun u => !Tryd.prog.wantsStandIn u) = true := by kernel_rfl
  exact (show Tryd.prog.wantsStandIn t = false by simpa using List.all_eq_true.1 hall t hm)
end Go.Proofs.YtcjhligknhpadaaDoor.walGoes
namespace Go.Proofs.YtcjhligknhpadaaDoor
/-- THE CARD: the row, its tables tied to the program's text. -/
theorem walGoes_card : Rows.WalGoesCardSaid :=
  Claim7.holds_tied_plain_at .later [] _ _ _ _ walGoes.said (fun _ h => by cases h) (by kernel_rfl) (fun _ h => by cases h) walGoes_row_tie rfl ⟨rfl, rfl⟩ (by kernel_rfl) rfl walGoes.plain (by kernel_rfl)
#print axioms walGoes_card
end Go.Proofs.YtcjhligknhpadaaDoor
