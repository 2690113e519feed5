/-
  Whenever power goes while a log is opened, or is formatted over an old one, the log that is opened then tells the same records, or none in the second case. It is proved for every input; the row lists a package-level table of octets, and two tables of Go's package unicode/utf8 (tied to the program's text; one of them is pinned).
-/
import Derived.Test.YtcjhligknhpadaaDoorXWalAgain3
import Derived.Deep.Slices
import Derived.Deep.Grids
import Derived.ChangeSame
import Derived.SizedLaws
import Derived.WideShapes
import Derived.OpenShut
import Derived.ChangeSlices
import Derived.Laws.BytesArg
import Derived.Test.YtcjhligknhpadaaDoorXWalAgain1
import Derived.WalkLawsBesides
import Derived.Lib.SmallJoins
namespace Go.Proofs.YtcjhligknhpadaaDoor
open Go.RowKit Go.ChangeShapes Go.WideShapes Go.Deep Go.Proofs.YtcjhligknhpadaaDoor.Wp Go.Proofs.YtcjhligknhpadaaDoorW.PrintWords Go.Proofs.YtcjhligknhpadaaDoorW.PrintLast
set_option linter.unusedVariables false
set_option linter.unusedSimpArgs false
namespace Dk

def RowsIn (w : World) (v : Value) (rs : List (List Int)) : Prop := ∃ (a : Option Addr) (c : Nat), v = .slice a rs.length c ∧ rs.length ≤ 9223372036854775807 ∧ ∀ j (hj : j < rs.length), ∃ ad u, a = some ad ∧ w.cell? (ad.add j) = some u ∧ BytesIn w u rs[j]
theorem rows_in {H : Type} {enc : TypeId × Value → H} {w : World} {base : Nat} {spare : Nat → Bool} {held : Bool} {v : Value} {x : DataW H × List MemPlace} {fuel : Nat} (hf : DataW.trod enc Tryd.prog w base spare held fuel 30 [v] = some x) : ∃ l, RowsIn w v l := by
  rcases open_slice1 Tryd.underlying30 (by kernel_rfl) hf with ⟨hcs, _⟩ | ⟨a, len, c, m, n, V, D, Pl, hcs, hb, hl, hm, hmm, _, hi⟩
  · cases hcs
    exact ⟨[], none, 0, rfl, by simp, fun j hj => by simp at hj⟩
  · cases hcs
    have hlm : len ≤ m := by
      rw [hmm]
      split
      · exact hl
      · exact Nat.le_refl _
    have hex : ∀ j, j < len → ∃ l, BytesIn w (V j) l := fun j hj => bytes_in (hi j (by omega)).2
    let g : Nat → List Int := fun j => if q : j < len then (hex j q).choose else []
    have hg : ∀ j, j < len → BytesIn w (V j) (g j) := by
      intro j q
      show BytesIn w (V j) (if q : j < len then (hex j q).choose else [])
      rw [dif_pos q]
      exact (hex j q).choose_spec
    have hlen : ((List.range len).map g).length = len := by simp
    refine ⟨(List.range len).map g, some a, c, by rw [hlen], by rw [hlen]; unfold maxLen at hm; omega, fun j hj => ?_⟩
    rw [hlen] at hj
    refine ⟨a, V j, rfl, (hi j (by omega)).1, ?_⟩
    rw [List.getElem_map, List.getElem_range]
    exact hg j hj
/-- what is below a place stays -/
theorem BytesIn.mono {w w' : World} {v : Value} {l : List Int} (h : BytesIn w v l) (hc : ∀ a u, w.cell? a = some u → w'.cell? a = some u) : BytesIn w' v l := by
  obtain ⟨a, c, h1, h2, h3, h4⟩ := h
  exact ⟨a, c, h1, h2, h3, fun j hj => by obtain ⟨ad, q1, q2⟩ := h4 j hj; exact ⟨ad, q1, hc _ _ q2⟩⟩
theorem RowsIn.mono {w w' : World} {v : Value} {rs : List (List Int)} (h : RowsIn w v rs) (hc : ∀ a u, w.cell? a = some u → w'.cell? a = some u) : RowsIn w' v rs := by
  obtain ⟨a, c, h1, h2, h3⟩ := h
  exact ⟨a, c, h1, h2, fun j hj => by obtain ⟨ad, u, q1, q2, q3⟩ := h3 j hj; exact ⟨ad, u, q1, hc _ _ q2, q3.mono hc⟩⟩
theorem BoolsIn.mono {w w' : World} {v : Value} {l : List Bool} (h : BoolsIn w v l) (hc : ∀ a u, w.cell? a = some u → w'.cell? a = some u) : BoolsIn w' v l := by
  obtain ⟨a, c, h1, h2, h3⟩ := h
  exact ⟨a, c, h1, h2, fun j hj => by obtain ⟨ad, q1, q2⟩ := h3 j hj; exact ⟨ad, q1, hc _ _ q2⟩⟩
theorem below_cells {w w' : World} (h : Below w.heap.size w w') : ∀ a u, w.cell? a = some u → w'.cell? a = some u := fun a u hc => cell_up hc h
theorem RowsAt.in_ {av : Av} {base : Nat} {w : World} {v : Value} {rs : List (List Int)} (h : RowsAt (av := av) base w v rs) (hn : rs.length ≤ 1000000) (hr : ∀ r ∈ rs, r.length ≤ 1000000) : RowsIn w v rs := by
  rcases Nat.eq_zero_or_pos rs.length with h0 | hpos
  · obtain ⟨vs, h1, h2, h3⟩ := h
    obtain ⟨a, c, rfl⟩ := own_slice h3
    exact ⟨a, c, rfl, by omega, fun j hj => by omega⟩
  · obtain ⟨g, c, u0, hv, _, _, _⟩ := RowsAt.at_ (av := av) h hpos
    refine ⟨some ⟨g, 0, none⟩, c, hv, by omega, fun j hj => ?_⟩
    obtain ⟨g', c', u, hv', _, hc, hby⟩ := RowsAt.at_ (av := av) h hj
    rw [hv] at hv'
    cases hv'
    refine ⟨_, u, rfl, by rw [add_00]; exact hc, ?_⟩
    obtain ⟨ua, uc, rfl⟩ := byts_slice (av := av) hby
    exact ⟨ua, uc, rfl, hby.1.1, by have := hr _ (List.getElem_mem hj); omega, byts_read (av := av) hby⟩
theorem conv_any (w : World) (v : Value) (l : List Int) (h : BytesIn w v l) : (convert 22 9 v).run Tryd.prog w = .ok (.string (strOfNums l)) w := by
  obtain ⟨a, c, rfl, _, _, h4⟩ := h
  cases a with
  | none =>
    have e : l = [] := by
      cases l with
      | nil => rfl
      | cons x l => obtain ⟨_, q, _⟩ := h4 0 (by simp); cases q
    subst e
    exact run_convert_bytes_nil w 22 5 Tryd.underlying22 Tryd.underlying5 0 c 9 Tryd.underlying9
  | some ad =>
    have hl : (loadCells ad l.length).run Tryd.prog w = .ok (l.map (Value.int .u8)).toArray w := by
      have := run_loadCells_list (P := Tryd.prog) w ad (l.map (Value.int .u8)) (fun j v hj => by
        have hjl : j < l.length := by
          apply Classical.byContradiction
          intro q
          rw [List.getElem?_eq_none (by rw [List.length_map]; omega)] at hj
          cases hj
        obtain ⟨_, q, hc⟩ := h4 j hjl
        cases q
        rw [hc]
        rw [List.getElem?_map, List.getElem?_eq_getElem hjl] at hj
        rw [List.getD_eq_getElem?_getD, List.getElem?_eq_getElem hjl]
        exact hj)
      simpa using this
    rw [run_convert_bytes_string w 22 9 5 _ _ c Tryd.underlying22 Tryd.underlying5 Tryd.underlying9, run_bytesToString w _ _ c l hl, foldl_push_bytes]
    simp [strOfNums, ByteArray.empty, ByteArray.emptyWithCapacity]
    rfl
theorem str_inj : ∀ {a b : List Int}, IsBy a → IsBy b → strOfNums a = strOfNums b → a = b := by
  intro a b ha hb h
  have h2 : a.map (fun n => UInt8.ofNat n.toNat) = b.map (fun n => UInt8.ofNat n.toNat) := by rw [← strOfNums_data, ← strOfNums_data, h]
  apply List.ext_getElem (by simpa using congrArg List.length h2)
  intro i h3 h4
  have h5 := congrArg (·[i]?) h2
  simp only [List.getElem?_map, List.getElem?_eq_getElem h3, List.getElem?_eq_getElem h4, Option.map_some, Option.some.injEq] at h5
  have q1 := ha _ (List.getElem_mem h3)
  have q2 := hb _ (List.getElem_mem h4)
  have h6 := congrArg UInt8.toNat h5
  simp only [UInt8.toNat_ofNat'] at h6
  omega
theorem str_ne {s t : ByteArray} (h : ¬ s = t) : (s.toList == t.toList) = false := by
  rw [beq_eq_false_iff_ne, ByteArray.toList_eq, ByteArray.toList_eq]
  intro q
  apply h
  obtain ⟨⟨a⟩⟩ := s
  obtain ⟨⟨b⟩⟩ := t
  simp only at q
  rw [q]
theorem pick_any (c n : Int) (w : World) (h0 : -9223372036854775808 ≤ c) (h1 : c ≤ 9223372036854775807) (hn : 0 < n) (hn2 : n ≤ 1000000) : Calls Tryd.prog 17 #[.int .i64 c, .int .i64 n] w fun e w' => (∃ r : Nat, (r : Int) < n ∧ e = .returned (.int .i64 r)) ∧ w = w' := by
  have hnz : ¬ n = 0 := by omega
  by_cases hc : c < 0
  · have t0 : decide (c < 0) = true := decide_eq_true hc
    have e1 : IntKind.i64.wrap (c + 1) = c + 1 := IntWalk.i64_in _ (by omega)
    have e2 : IntKind.i64.wrap (-(c + 1)) = -(c + 1) := IntWalk.i64_in _ (by omega)
    go_enter Tryd.func17, Tryd.ntmps17
    go_wp2_with fail
    go_ret
    have e : -((c + 1).tmod n) = (-(c + 1)) % n := by rw [← Int.neg_tmod, Int.tmod_eq_emod_of_nonneg (by omega)]
    have p1 := Int.emod_nonneg (-(c + 1)) hnz
    have p2 := Int.emod_lt_of_pos (-(c + 1)) hn
    exact ⟨⟨((-(c + 1)) % n).toNat, by omega, by rw [show (((-(c + 1)) % n).toNat : Int) = (-(c + 1)) % n by omega, ← e]; rfl⟩, rfl⟩
  · have t0 : decide (c < 0) = false := decide_eq_false hc
    go_enter Tryd.func17, Tryd.ntmps17
    go_wp2_with fail
    go_ret
    have p1 := Int.emod_nonneg c hnz
    have p2 := Int.emod_lt_of_pos c hn
    exact ⟨⟨(c % n).toNat, by omega, by rw [show ((c % n).toNat : Int) = c % n by omega]; rfl⟩, rfl⟩
def LSm (w : World) (n : Nat) (rs qs : List (List Int)) (i : Value) (wr : World) : Prop := ∃ k : Nat, k ≤ n ∧ i = .int .i64 k ∧ (∃ n, wr = w.drewN n) ∧ rs.take k = qs.take k
set_option maxHeartbeats 2000000 in
set_option maxRecDepth 100000 in
theorem same_rows (w : World) (v1 v2 : Value) (rs qs : List (List Int)) (h1 : RowsIn w v1 rs) (h2 : RowsIn w v2 qs) : Calls Tryd.prog 23 #[v1, v2] w fun e w' => e = .returned (.bool (decide (rs = qs))) ∧ ∃ n, w' = w.drewN n := by
  obtain ⟨a1, c1, rfl, l1, r1⟩ := h1
  obtain ⟨a2, c2, rfl, l2, r2⟩ := h2
  have R1 := Lib.hid r1
  have R2 := Lib.hid r2
  clear r1 r2
  by_cases hl : rs.length = qs.length
  · rw [← hl]
    obtain ⟨n, hn⟩ : ∃ n, rs.length = n := ⟨_, rfl⟩
    rw [hn]
    rw [hn] at l1 hl
    have HLN := Lib.hid hn
    have HLL := Lib.hid hl
    clear hl hn l2
    have tl : ((n : Int) == (n : Int)) = true := by simp
    go_enter Tryd.func23, Tryd.ntmps23
    go_wp2_with fail
    go_loopw [5] (fun i wr => LSm w n rs qs i wr) (fun i _ => n + 1 - (intOf i).toNat)
    case atStart => exact ⟨0, Nat.zero_le _, rfl, ⟨0, rfl⟩, rfl⟩
    case round =>
      obtain ⟨k, hk, rfl, ⟨nd, rfl⟩, heq⟩ := hrel
      by_cases hkl : k < n
      · have t1 : decide ((k : Int) < (n : Int)) = true := decide_eq_true (by omega)
        have hk1 : k < rs.length := by have := HLN.out; omega
        have hk2 : k < qs.length := by have := HLL.out; omega
        obtain ⟨x, u1, rfl, g1, b1⟩ := R1.out k hk1
        obtain ⟨y, u2, rfl, g2, b2⟩ := R2.out k (by have := HLL.out; omega)
        have g3 : ∀ W : World, (∀ a u, w.cell? a = some u → W.cell? a = some u) → _ := fun W hW => conv_any W u1 _ (b1.mono hW)
        have g4 : ∀ W : World, (∀ a u, w.cell? a = some u → W.cell? a = some u) → _ := fun W hW => conv_any W u2 _ (b2.mono hW)
        have hb1 := b1.choose_spec.choose_spec.2.1
        have hb2 := b2.choose_spec.choose_spec.2.1
        have HINJ := Lib.hid (str_inj hb1 hb2)
        clear b1 b2 hb1 hb2
        generalize hs1 : strOfNums rs[k] = s1 at g3 HINJ
        generalize hs2 : strOfNums qs[k] = s2 at g4 HINJ
        have C1 := Lib.hid g3
        have C2 := Lib.hid g4
        clear g3 g4
        go_wp2_with fail
        refine Go.Proofs.YtcjhligknhpadaaDoorW.PrintLast.start_ (n := 11) (S := fun v => v.cell? (x.add k) = some u1 ∧ v.cell? (y.add k) = some u2 ∧ (convert 22 9 u1).run Tryd.prog v = .ok (.string s1) v ∧ (convert 22 9 u2).run Tryd.prog v = .ok (.string s2) v) (ds := [10]) #[false, false, false, false, false, false, false, false, false, false, false] (by kernel_rfl) rfl rfl ⟨g1, g2, C1.out _ (fun _ _ q => q), C2.out _ (fun _ _ q => q)⟩ (fun hHeld => ?_)
        refine Go.Proofs.YtcjhligknhpadaaDoorW.PrintLast.pure_ (i := 0) (N := some 17) (v := ?_) (a' := ?_) #[true, false, false, false, false, false, false, false, false, false, false] rfl rfl (by kernel_rfl) (fun _ _ _ h => h) (Or.inl ⟨by rfl, ?_⟩) ?_ ?_
        rotate_left
        · intro w'
          go_simp
          with_reducible rfl
        rotate_left
        · simp only [Act.put, List.setIfInBounds_toArray, List.set_cons_zero, List.set_cons_succ, Go.Proofs.YtcjhligknhpadaaDoorW.PrintLast.i64_w, Go.Proofs.YtcjhligknhpadaaDoorW.PrintLast.i32_w]
          rfl
        refine Go.Proofs.YtcjhligknhpadaaDoorW.PrintLast.pure_ (i := 1) (N := some 18) (v := ?_) (a' := ?_) #[true, true, false, false, false, false, false, false, false, false, false] rfl rfl (by kernel_rfl) (fun _ _ _ h => h) (Or.inl ⟨by rfl, ?_⟩) ?_ ?_
        rotate_left
        · intro w'
          go_simp
          with_reducible rfl
        rotate_left
        · simp only [Act.put, List.setIfInBounds_toArray, List.set_cons_zero, List.set_cons_succ, Go.Proofs.YtcjhligknhpadaaDoorW.PrintLast.i64_w, Go.Proofs.YtcjhligknhpadaaDoorW.PrintLast.i32_w]
          rfl
        refine Go.Proofs.YtcjhligknhpadaaDoorW.PrintLast.pure_ (i := 2) (N := some 19) (v := ?_) (a' := ?_) #[true, true, true, false, false, false, false, false, false, false, false] rfl rfl (by kernel_rfl) (fun _ _ _ h => h) (Or.inl ⟨by rfl, ?_⟩) ?_ ?_
        rotate_left
        · intro w'
          go_simp
          with_reducible rfl
        rotate_left
        · simp only [Act.put, List.setIfInBounds_toArray, List.set_cons_zero, List.set_cons_succ, Go.Proofs.YtcjhligknhpadaaDoorW.PrintLast.i64_w, Go.Proofs.YtcjhligknhpadaaDoorW.PrintLast.i32_w]
          rfl
        refine Go.Proofs.YtcjhligknhpadaaDoorW.PrintLast.take_ (i := 3) (N := some 20) (v := ?_) (a' := ?_) #[true, true, true, true, false, false, false, false, false, false, false] rfl rfl (by kernel_rfl) (fun _ _ _ h => h) (Or.inl ⟨by rfl, ?_⟩) hHeld ?_ ?_
        rotate_left
        · rintro w' ⟨s0, s1, s2, s3⟩
          go_simp
          with_reducible rfl
        rotate_left
        · simp only [Act.put, List.setIfInBounds_toArray, List.set_cons_zero, List.set_cons_succ, Go.Proofs.YtcjhligknhpadaaDoorW.PrintLast.i64_w, Go.Proofs.YtcjhligknhpadaaDoorW.PrintLast.i32_w]
          rfl
        refine Go.Proofs.YtcjhligknhpadaaDoorW.PrintLast.take_ (i := 4) (N := some 21) (v := ?_) (a' := ?_) #[true, true, true, true, true, false, false, false, false, false, false] rfl rfl (by kernel_rfl) (fun _ _ _ h => h) (Or.inl ⟨by rfl, ?_⟩) hHeld ?_ ?_
        rotate_left
        · rintro w' ⟨s0, s1, s2, s3⟩
          go_simp
          with_reducible rfl
        rotate_left
        · simp only [Act.put, List.setIfInBounds_toArray, List.set_cons_zero, List.set_cons_succ, Go.Proofs.YtcjhligknhpadaaDoorW.PrintLast.i64_w, Go.Proofs.YtcjhligknhpadaaDoorW.PrintLast.i32_w]
          rfl
        refine Go.Proofs.YtcjhligknhpadaaDoorW.PrintLast.pure_ (i := 5) (N := some 22) (v := ?_) (a' := ?_) #[true, true, true, true, true, true, false, false, false, false, false] rfl rfl (by kernel_rfl) (fun _ _ _ h => h) (Or.inl ⟨by rfl, ?_⟩) ?_ ?_
        rotate_left
        · intro w'
          go_simp
          with_reducible rfl
        rotate_left
        · simp only [Act.put, List.setIfInBounds_toArray, List.set_cons_zero, List.set_cons_succ, Go.Proofs.YtcjhligknhpadaaDoorW.PrintLast.i64_w, Go.Proofs.YtcjhligknhpadaaDoorW.PrintLast.i32_w]
          rfl
        refine Go.Proofs.YtcjhligknhpadaaDoorW.PrintLast.pure_ (i := 6) (N := some 23) (v := ?_) (a' := ?_) #[true, true, true, true, true, true, true, false, false, false, false] rfl rfl (by kernel_rfl) (fun _ _ _ h => h) (Or.inl ⟨by rfl, ?_⟩) ?_ ?_
        rotate_left
        · intro w'
          go_simp
          with_reducible rfl
        rotate_left
        · simp only [Act.put, List.setIfInBounds_toArray, List.set_cons_zero, List.set_cons_succ, Go.Proofs.YtcjhligknhpadaaDoorW.PrintLast.i64_w, Go.Proofs.YtcjhligknhpadaaDoorW.PrintLast.i32_w]
          rfl
        refine Go.Proofs.YtcjhligknhpadaaDoorW.PrintLast.pure_ (i := 7) (N := some 24) (v := ?_) (a' := ?_) #[true, true, true, true, true, true, true, true, false, false, false] rfl rfl (by kernel_rfl) (fun _ _ _ h => h) (Or.inl ⟨by rfl, ?_⟩) ?_ ?_
        rotate_left
        · intro w'
          go_simp
          with_reducible rfl
        rotate_left
        · simp only [Act.put, List.setIfInBounds_toArray, List.set_cons_zero, List.set_cons_succ, Go.Proofs.YtcjhligknhpadaaDoorW.PrintLast.i64_w, Go.Proofs.YtcjhligknhpadaaDoorW.PrintLast.i32_w]
          rfl
        refine Go.Proofs.YtcjhligknhpadaaDoorW.PrintLast.take_ (i := 8) (N := some 25) (v := ?_) (a' := ?_) #[true, true, true, true, true, true, true, true, true, false, false] rfl rfl (by kernel_rfl) (fun _ _ _ h => h) (Or.inl ⟨by rfl, ?_⟩) hHeld ?_ ?_
        rotate_left
        · rintro w' ⟨s0, s1, s2, s3⟩
          go_simp
          with_reducible rfl
        rotate_left
        · simp only [Act.put, List.setIfInBounds_toArray, List.set_cons_zero, List.set_cons_succ, Go.Proofs.YtcjhligknhpadaaDoorW.PrintLast.i64_w, Go.Proofs.YtcjhligknhpadaaDoorW.PrintLast.i32_w]
          rfl
        refine Go.Proofs.YtcjhligknhpadaaDoorW.PrintLast.take_ (i := 9) (N := some 26) (v := ?_) (a' := ?_) #[true, true, true, true, true, true, true, true, true, true, false] rfl rfl (by kernel_rfl) (fun _ _ _ h => h) (Or.inl ⟨by rfl, ?_⟩) hHeld ?_ ?_
        rotate_left
        · rintro w' ⟨s0, s1, s2, s3⟩
          go_simp
          with_reducible rfl
        rotate_left
        · simp only [Act.put, List.setIfInBounds_toArray, List.set_cons_zero, List.set_cons_succ, Go.Proofs.YtcjhligknhpadaaDoorW.PrintLast.i64_w, Go.Proofs.YtcjhligknhpadaaDoorW.PrintLast.i32_w]
          rfl
        refine Go.Proofs.YtcjhligknhpadaaDoorW.PrintLast.pure_ (i := 10) (N := some 27) (v := ?_) (a' := ?_) #[true, true, true, true, true, true, true, true, true, true, true] rfl rfl (by kernel_rfl) (fun _ _ _ h => h) (Or.inl ⟨by rfl, ?_⟩) ?_ ?_
        rotate_left
        · intro w'
          go_simp
          with_reducible rfl
        rotate_left
        · simp only [Act.put, List.setIfInBounds_toArray, List.set_cons_zero, List.set_cons_succ, Go.Proofs.YtcjhligknhpadaaDoorW.PrintLast.i64_w, Go.Proofs.YtcjhligknhpadaaDoorW.PrintLast.i32_w]
          rfl
        refine Go.Proofs.YtcjhligknhpadaaDoorW.PrintLast.done_ (by kernel_rfl) ?_
        by_cases hss : s1 = s2
        · subst hss
          simp only [show (s1.toList == s1.toList) = true by simp, Bool.not_true]
          go_wp2_with fail
          go_roundw
          case rel => exact ⟨k + 1, hkl, by go_num, ⟨_, rfl⟩, by rw [List.take_add_one, List.take_add_one, heq, List.getElem?_eq_getElem (show k < rs.length by have := HLN.out; omega), List.getElem?_eq_getElem (show k < qs.length by have := HLL.out; omega), HINJ.out rfl]⟩
          case measure => simp [intOf]; omega
        · have hnb := str_ne hss
          simp only [hnb, Bool.not_false]
          have hne : rs ≠ qs := fun q => hss (by subst q; exact hs1.symm.trans hs2)
          go_wp2_with fail
          go_ret
          exact ⟨by rw [decide_eq_false hne]; rfl, ⟨nd + 1, rfl⟩⟩
      · have t1 : decide ((k : Int) < (n : Int)) = false := decide_eq_false (by omega)
        have he : rs = qs := by
          have e1 : rs.take k = rs := List.take_of_length_le (by have := HLN.out; omega)
          have e2 : qs.take k = qs := List.take_of_length_le (by have := HLL.out; omega)
          rw [e1, e2] at heq
          exact heq
        go_wp2_with fail
        go_ret
        exact ⟨by rw [decide_eq_true he]; rfl, ⟨_, rfl⟩⟩
  · have tl : ((rs.length : Int) == (qs.length : Int)) = false := by simp; omega
    have hne : rs ≠ qs := fun q => hl (by rw [q])
    go_enter Tryd.func23, Tryd.ntmps23
    go_wp2_with fail
    go_ret
    exact ⟨by rw [decide_eq_false hne]; rfl, ⟨0, rfl⟩⟩
end Dk
end Go.Proofs.YtcjhligknhpadaaDoor

namespace Go.Proofs.YtcjhligknhpadaaDoor
open Go.RowKit Go.Proofs.YtcjhligknhpadaaDoorW.PrintWords Go.Proofs.YtcjhligknhpadaaDoorW.PrintLast
set_option linter.unusedVariables false
set_option linter.unusedSimpArgs false
namespace Dk
set_option maxHeartbeats 2000000 in
set_option maxRecDepth 100000 in
theorem left_some2 [av : Av] (base bs : Nat) (w : World) (D : Nat) (d : Dsk) (safe n : Nat) (KA : Option Addr) (kc : Nat) (keep : List Bool) (h : IsDk base w D d) (hf : d.Fit) (hbw : bs ≤ w.heap.size) (hN : 1 ≤ d.N ∧ d.N ≤ 4096) (hs : safe ≤ n) (hn : n ≤ d.log.length) (hpos : 0 < d.log.length)
    (hkl : keep.length ≤ 9223372036854775807) (hk : ∀ j, j < keep.length → ∃ a, KA = some a ∧ w.cell? (a.add j) = some (.bool (keep.getD j false))) :
    Calls Tryd.prog 44 #[.pointer (some ⟨D, 0, none⟩), .int .i64 safe, .int .i64 n, .slice KA keep.length kc] w fun e w' => ∃ C, e = .returned (.pointer (some ⟨C, 0, none⟩)) ∧ IsDk bs w' C (leftD d safe n keep) ∧ Below w.heap.size w w' := by
  obtain ⟨F, M, lv, sv, hd⟩ := h
  obtain ⟨c0, c1, _, c3, _⟩ := hd.cells
  obtain ⟨esF, cF, hF, hFk, hFb⟩ := hd.hF
  have HD := Lib.hid hd
  have HF := Lib.hid hF
  have HFB := Lib.hid (And.intro hFk hFb)
  have HN := Lib.hid hN
  have HS := Lib.hid hs
  have HNL := Lib.hid hn
  have HFit := Lib.hid hf
  have HBW := Lib.hid hbw
  have HK := Lib.hid hk
  have HKL := Lib.hid hkl
  have hDl := lt_of_heap hd.hD
  have hFl := lt_of_heap hF
  obtain ⟨g, lc, rfl, hcap, hgl, hlog⟩ := log_cell hd.hL hpos
  have HLOG := Lib.hid hlog
  clear hlog
  have hn1 : n ≤ 1000000 := by have := hf.1; omega
  have q1 : n ≤ lc := by omega
  have q2 : (0 : Int) ≤ (n : Int) := by omega
  have q3 : (n : Int) ≤ (lc : Int) := by omega
  clear hd hF hFk hFb hN hs hn hf hbw hk hkl hcap
  go_enter Tryd.func44, Tryd.ntmps44
  go_wp2_with fail
  refine (new_abs d.N _ HN.out.1 HN.out.2).mono ?_
  rintro e w1 ⟨rfl, hb1, hz1, hm0, hm1, hC⟩
  have c1' : w1.cell? ⟨D, 1, none⟩ = some (.map (some F)) := (hb1.cell (p := ⟨D, 1, none⟩) hDl).trans c1
  have hF1 := (hb1.block F hFl).trans HF.out
  have c3' : w1.cell? ⟨D, 3, none⟩ = some (.slice (some ⟨g, 0, none⟩) d.log.length lc) := (hb1.cell (p := ⟨D, 3, none⟩) hDl).trans c3
  have HC1 := Lib.hid hC
  have HB1 := Lib.hid hb1
  have HM1 := Lib.hid hm1
  have HZ1 := Lib.hid hz1
  clear hC hb1 hm0 hm1 hz1 c0 c1 c3
  go_wp2_with fail
  refine (clone_abs F esF cF _ hF1).mono ?_
  rintro e w2 ⟨rfl, hb2, hz2, hm2⟩
  have hs2 : w1.heap.size = w.heap.size + 3 := HZ1.out
  have hC2 := (hb2.block (w.heap.size + 2) (by omega)).trans HC1.out
  have c5 := cell_of (i := 1) hC2 rfl
  have f5 := free_of (i := 1) hC2
  have c6 : w2.cell? ⟨D, 3, none⟩ = some (.slice (some ⟨g, 0, none⟩) d.log.length lc) := (hb2.cell (p := ⟨D, 3, none⟩) (show D < w1.heap.size by omega)).trans c3'
  have n1 : ¬ D = w.heap.size + 2 := by omega
  have n2 : ¬ w.heap.size + 2 = D := by omega
  have n3 : w.heap.size + 2 < w2.heap.size := by omega
  have HC2 := Lib.hid hC2
  have HM2 := Lib.hid hm2
  have HB2 := Lib.hid hb2
  have HZ2 := Lib.hid hz2
  have HS2 := Lib.hid hs2
  clear hC2 hm2 hb2 hz2 hs2 c1' c3'
  go_wp2_with fail
  go_loopw [36] (fun i wr => LrR w d safe keep n i wr) (fun i _ => n - (intOf i).toNat)
  case atStart =>
    have e := HS2.out
    refine ⟨0, rfl, ⟨Nat.zero_le _, ?_, ?_, ?_, ?_⟩⟩
    · simp [World.setCell, Array.getElem?_modify, HC2.out, e]
    · refine ⟨esF, cF, ?_, HFB.out.1, fun k => ?_⟩
      · have h := HM2.out
        rw [e] at h
        simp [World.setCell, Array.getElem?_modify, h]
      · exact (HFB.out.2 k).below (((HB1.out.trans (HB2.out.mono (by omega))).setCell (by simp) _))
    · exact ((HB1.out.trans (HB2.out.mono (by omega))).setCell (by simp) _)
    · have h2 := HZ2.out
      have : (w2.setCell ⟨w.heap.size + 2, 1, none⟩ (.map (some w1.heap.size))).heap.size = w2.heap.size := by simp [World.setCell]
      omega
  case round =>
    obtain ⟨k, rfl, hL⟩ := hrel
    have hkn := hL.kn
    have LL := Lib.hid hL
    clear hL
    by_cases hlt : k < n
    · have hkl : k < d.log.length := by have := HNL.out; omega
      obtain ⟨v, hbv, hk0, hk1⟩ := HLOG.out k hkl
      have hB := LL.out.hb
      have k0 : wr.cell? ⟨g, k * 2, none⟩ = some (.int .i64 d.log[k].1) := (hB.cell (p := ⟨g, k * 2, none⟩) hgl).trans hk0
      have k1 : wr.cell? ⟨g, k * 2 + 1, none⟩ = some v := (hB.cell (p := ⟨g, k * 2 + 1, none⟩) hgl).trans hk1
      obtain ⟨va, vc, rfl⟩ := own_slice hbv.2
      have HBV := Lib.hid hbv
      have HLK := Lib.hid (show d.log.getD k (0, []) = (d.log[k].1, d.log[k].2) from by simp [List.getD_eq_getElem?_getD, hkl])
      generalize d.log[k].2 = lb at *
      generalize d.log[k].1 = ls at *
      clear hbv hk0 hk1 hB
      have hz := LL.out.hz
      have q4 : (k : Int) < (n : Int) := by omega
      have q5 : decide (k < n) = true := decide_eq_true hlt
      have hC3 := LL.out.hC
      have d1 := cell_al (.cells #[.int .i64 ls, .slice va lb.length vc] 97) (cell_of (i := 1) hC3 rfl)
      have b0 : (wr.alloc (.cells #[.int .i64 ls, .slice va lb.length vc] 97)).cell? ⟨wr.heap.size, 0, none⟩ = some (.int .i64 ls) := by simp
      have b1 : (wr.alloc (.cells #[.int .i64 ls, .slice va lb.length vc] 97)).cell? ⟨wr.heap.size, 1, none⟩ = some (.slice va lb.length vc) := by simp
      obtain ⟨es, c, hFc, hki, hFv⟩ := LL.out.hF
      have dm : (wr.alloc (.cells #[.int .i64 ls, .slice va lb.length vc] 97)).heap[w.heap.size + 3]? = some (.map es c) := ((World.grownBy_alloc wr _ none).block _ (lt_of_heap hFc) (by simp)).trans hFc
      have HKI := Lib.hid hki
      have HFC := Lib.hid hFc
      have HFV := Lib.hid hFv
      have HC3 := Lib.hid hC3
      have n4 : w.heap.size + 3 < wr.heap.size := by omega
      have n5 : w.heap.size + 2 < wr.heap.size := by omega
      clear hC3 hFc hki hFv
      by_cases h1 : k < safe
      · have t1 : decide (k < safe) = true := decide_eq_true h1
        have t2 : decide ((k : Int) < (safe : Int)) = true := decide_eq_true (by omega)
        have HKP := Lib.hid (show kept safe keep k = true by simp [kept, h1])
        go_wp2_with fail
        refine Go.Proofs.YtcjhligknhpadaaDoorW.PrintLast.start_ (n := 9) (S := fun v => v.cell? ⟨w.heap.size + 2, 1, none⟩ = some (.map (some (w.heap.size + 3))) ∧ v.cell? ⟨wr.heap.size, 0, none⟩ = some (.int .i64 ls) ∧ v.cell? ⟨wr.heap.size, 1, none⟩ = some (.slice va lb.length vc) ∧ v.heap[w.heap.size + 3]? = some (.map es c)) (ds := [8]) #[false, false, false, false, false, false, false, false, false] (by kernel_rfl) rfl rfl ⟨d1, b0, b1, dm⟩ (fun hHeld => ?_)
        refine Go.Proofs.YtcjhligknhpadaaDoorW.PrintLast.pure_ (i := 0) (N := some 60) (v := ?_) (a' := ?_) #[true, false, false, false, false, false, false, false, false] rfl rfl (by kernel_rfl) (fun _ _ _ h => h) (Or.inl ⟨by rfl, ?_⟩) ?_ ?_
        rotate_left
        · intro w'
          go_simp
          with_reducible rfl
        rotate_left
        · simp only [Act.put, List.setIfInBounds_toArray, List.set_cons_zero, List.set_cons_succ, Go.Proofs.YtcjhligknhpadaaDoorW.PrintLast.i64_w, Go.Proofs.YtcjhligknhpadaaDoorW.PrintLast.i32_w]
          rfl
        refine Go.Proofs.YtcjhligknhpadaaDoorW.PrintLast.pure_ (i := 1) (N := some 61) (v := ?_) (a' := ?_) #[true, true, false, false, false, false, false, false, false] rfl rfl (by kernel_rfl) (fun _ _ _ h => h) (Or.inl ⟨by rfl, ?_⟩) ?_ ?_
        rotate_left
        · intro w'
          go_simp
          with_reducible rfl
        rotate_left
        · simp only [Act.put, List.setIfInBounds_toArray, List.set_cons_zero, List.set_cons_succ, Go.Proofs.YtcjhligknhpadaaDoorW.PrintLast.i64_w, Go.Proofs.YtcjhligknhpadaaDoorW.PrintLast.i32_w]
          rfl
        refine Go.Proofs.YtcjhligknhpadaaDoorW.PrintLast.pure_ (i := 2) (N := some 62) (v := ?_) (a' := ?_) #[true, true, true, false, false, false, false, false, false] rfl rfl (by kernel_rfl) (fun _ _ _ h => h) (Or.inl ⟨by rfl, ?_⟩) ?_ ?_
        rotate_left
        · intro w'
          go_simp
          with_reducible rfl
        rotate_left
        · simp only [Act.put, List.setIfInBounds_toArray, List.set_cons_zero, List.set_cons_succ, Go.Proofs.YtcjhligknhpadaaDoorW.PrintLast.i64_w, Go.Proofs.YtcjhligknhpadaaDoorW.PrintLast.i32_w]
          rfl
        refine Go.Proofs.YtcjhligknhpadaaDoorW.PrintLast.take_ (i := 3) (N := some 63) (v := ?_) (a' := ?_) #[true, true, true, true, false, false, false, false, false] rfl rfl (by kernel_rfl) (fun _ _ _ h => h) (Or.inl ⟨by rfl, ?_⟩) hHeld ?_ ?_
        rotate_left
        · rintro w' ⟨s0, s1, s2, s3⟩
          go_simp
          with_reducible rfl
        rotate_left
        · simp only [Act.put, List.setIfInBounds_toArray, List.set_cons_zero, List.set_cons_succ, Go.Proofs.YtcjhligknhpadaaDoorW.PrintLast.i64_w, Go.Proofs.YtcjhligknhpadaaDoorW.PrintLast.i32_w]
          rfl
        refine Go.Proofs.YtcjhligknhpadaaDoorW.PrintLast.pure_ (i := 4) (N := some 64) (v := ?_) (a' := ?_) #[true, true, true, true, true, false, false, false, false] rfl rfl (by kernel_rfl) (fun _ _ _ h => h) (Or.inl ⟨by rfl, ?_⟩) ?_ ?_
        rotate_left
        · intro w'
          go_simp
          with_reducible rfl
        rotate_left
        · simp only [Act.put, List.setIfInBounds_toArray, List.set_cons_zero, List.set_cons_succ, Go.Proofs.YtcjhligknhpadaaDoorW.PrintLast.i64_w, Go.Proofs.YtcjhligknhpadaaDoorW.PrintLast.i32_w]
          rfl
        refine Go.Proofs.YtcjhligknhpadaaDoorW.PrintLast.take_ (i := 5) (N := some 65) (v := ?_) (a' := ?_) #[true, true, true, true, true, true, false, false, false] rfl rfl (by kernel_rfl) (fun _ _ _ h => h) (Or.inl ⟨by rfl, ?_⟩) hHeld ?_ ?_
        rotate_left
        · rintro w' ⟨s0, s1, s2, s3⟩
          go_simp
          with_reducible rfl
        rotate_left
        · simp only [Act.put, List.setIfInBounds_toArray, List.set_cons_zero, List.set_cons_succ, Go.Proofs.YtcjhligknhpadaaDoorW.PrintLast.i64_w, Go.Proofs.YtcjhligknhpadaaDoorW.PrintLast.i32_w]
          rfl
        refine Go.Proofs.YtcjhligknhpadaaDoorW.PrintLast.pure_ (i := 6) (N := some 66) (v := ?_) (a' := ?_) #[true, true, true, true, true, true, true, false, false] rfl rfl (by kernel_rfl) (fun _ _ _ h => h) (Or.inl ⟨by rfl, ?_⟩) ?_ ?_
        rotate_left
        · intro w'
          go_simp
          with_reducible rfl
        rotate_left
        · simp only [Act.put, List.setIfInBounds_toArray, List.set_cons_zero, List.set_cons_succ, Go.Proofs.YtcjhligknhpadaaDoorW.PrintLast.i64_w, Go.Proofs.YtcjhligknhpadaaDoorW.PrintLast.i32_w]
          rfl
        refine Go.Proofs.YtcjhligknhpadaaDoorW.PrintLast.take_ (i := 7) (N := some 67) (v := ?_) (a' := ?_) #[true, true, true, true, true, true, true, true, false] rfl rfl (by kernel_rfl) (fun _ _ _ h => h) (Or.inl ⟨by rfl, ?_⟩) hHeld ?_ ?_
        rotate_left
        · rintro w' ⟨s0, s1, s2, s3⟩
          go_simp
          with_reducible rfl
        rotate_left
        · simp only [Act.put, List.setIfInBounds_toArray, List.set_cons_zero, List.set_cons_succ, Go.Proofs.YtcjhligknhpadaaDoorW.PrintLast.i64_w, Go.Proofs.YtcjhligknhpadaaDoorW.PrintLast.i32_w]
          rfl
        refine Go.Proofs.YtcjhligknhpadaaDoorW.PrintLast.last_ (i := 8) (N := none) #[true, true, true, true, true, true, true, true, true] rfl rfl (by kernel_rfl) (by decide) (fun K hK => ?_)
        obtain ⟨es', c', hrun, hk', hm'⟩ := run_mapUpdate (w := (wr.alloc (.cells #[.int .i64 ls, .slice va lb.length vc] 97)).drew) Tryd.underlying78 Tryd.underlying3 hHeld.2.2.2 HKI.out ls (.slice va lb.length vc)
        refine Go.Proofs.YtcjhligknhpadaaDoorW.PrintLast.skip_ (w1 := setMap (wr.alloc (.cells #[.int .i64 ls, .slice va lb.length vc] 97)).drew (w.heap.size + 3) (.map es' c')) (by rfl) rfl (by go_simp) ?_
        refine hK.out _ _ ?_
        clear hK K
        refine Go.Proofs.YtcjhligknhpadaaDoorW.PrintLast.done_ (by kernel_rfl) ?_
        go_wp2_with fail
        go_roundw
        case rel => exact ⟨k + 1, by go_num, LL.out.take hlt HKP.out HLK.out HBV.out HFC.out HFV.out hk' hm'⟩
        case measure => simp [intOf]; omega
      · have t1 : decide (k < safe) = false := decide_eq_false h1
        have t2 : decide ((k : Int) < (safe : Int)) = false := decide_eq_false (by omega)
        have ej : IntKind.i64.wrap ((k : Int) - (safe : Int)) = ((k - safe : Nat) : Int) := by
          have := HFit.out.1
          have := HNL.out
          rw [IntWalk.i64_in _ (by omega)]
          omega
        obtain ⟨j, hj⟩ : ∃ j, k - safe = j := ⟨_, rfl⟩
        rw [hj] at ej
        by_cases h2 : j < keep.length
        · have t3 : decide (j < keep.length) = true := decide_eq_true h2
          have t4 : decide ((j : Int) < (keep.length : Int)) = true := decide_eq_true (by omega)
          have t5 : (0 : Int) ≤ (j : Int) := by omega
          have t6 : (j : Int) < (keep.length : Int) := by omega
          obtain ⟨a, ha, hka⟩ := HK.out j h2
          subst ha
          have hka1 : wr.cell? (a.add j) = some (.bool (keep.getD j false)) := by
            have hb := LL.out.hb
            have hlt2 := World.block_lt_of_cell? w _ hka
            exact (hb.cell (p := a.add j) hlt2).trans hka
          have hka2 := cell_al (.cells #[.int .i64 ls, .slice va lb.length vc] 97) hka1
          clear hka hka1
          cases hkb : keep.getD j false with
          | true =>
            rw [hkb] at hka2
            have HKP := Lib.hid (show kept safe keep k = true by simp only [kept, hj, hkb, t3]; simp)
            go_wp2_with fail
            refine Go.Proofs.YtcjhligknhpadaaDoorW.PrintLast.start_ (n := 9) (S := fun v => v.cell? ⟨w.heap.size + 2, 1, none⟩ = some (.map (some (w.heap.size + 3))) ∧ v.cell? ⟨wr.heap.size, 0, none⟩ = some (.int .i64 ls) ∧ v.cell? ⟨wr.heap.size, 1, none⟩ = some (.slice va lb.length vc) ∧ v.heap[w.heap.size + 3]? = some (.map es c)) (ds := [8]) #[false, false, false, false, false, false, false, false, false] (by kernel_rfl) rfl rfl ⟨d1, b0, b1, dm⟩ (fun hHeld => ?_)
            refine Go.Proofs.YtcjhligknhpadaaDoorW.PrintLast.pure_ (i := 0) (N := some 60) (v := ?_) (a' := ?_) #[true, false, false, false, false, false, false, false, false] rfl rfl (by kernel_rfl) (fun _ _ _ h => h) (Or.inl ⟨by rfl, ?_⟩) ?_ ?_
            rotate_left
            · intro w'
              go_simp
              with_reducible rfl
            rotate_left
            · simp only [Act.put, List.setIfInBounds_toArray, List.set_cons_zero, List.set_cons_succ, Go.Proofs.YtcjhligknhpadaaDoorW.PrintLast.i64_w, Go.Proofs.YtcjhligknhpadaaDoorW.PrintLast.i32_w]
              rfl
            refine Go.Proofs.YtcjhligknhpadaaDoorW.PrintLast.pure_ (i := 1) (N := some 61) (v := ?_) (a' := ?_) #[true, true, false, false, false, false, false, false, false] rfl rfl (by kernel_rfl) (fun _ _ _ h => h) (Or.inl ⟨by rfl, ?_⟩) ?_ ?_
            rotate_left
            · intro w'
              go_simp
              with_reducible rfl
            rotate_left
            · simp only [Act.put, List.setIfInBounds_toArray, List.set_cons_zero, List.set_cons_succ, Go.Proofs.YtcjhligknhpadaaDoorW.PrintLast.i64_w, Go.Proofs.YtcjhligknhpadaaDoorW.PrintLast.i32_w]
              rfl
            refine Go.Proofs.YtcjhligknhpadaaDoorW.PrintLast.pure_ (i := 2) (N := some 62) (v := ?_) (a' := ?_) #[true, true, true, false, false, false, false, false, false] rfl rfl (by kernel_rfl) (fun _ _ _ h => h) (Or.inl ⟨by rfl, ?_⟩) ?_ ?_
            rotate_left
            · intro w'
              go_simp
              with_reducible rfl
            rotate_left
            · simp only [Act.put, List.setIfInBounds_toArray, List.set_cons_zero, List.set_cons_succ, Go.Proofs.YtcjhligknhpadaaDoorW.PrintLast.i64_w, Go.Proofs.YtcjhligknhpadaaDoorW.PrintLast.i32_w]
              rfl
            refine Go.Proofs.YtcjhligknhpadaaDoorW.PrintLast.take_ (i := 3) (N := some 63) (v := ?_) (a' := ?_) #[true, true, true, true, false, false, false, false, false] rfl rfl (by kernel_rfl) (fun _ _ _ h => h) (Or.inl ⟨by rfl, ?_⟩) hHeld ?_ ?_
            rotate_left
            · rintro w' ⟨s0, s1, s2, s3⟩
              go_simp
              with_reducible rfl
            rotate_left
            · simp only [Act.put, List.setIfInBounds_toArray, List.set_cons_zero, List.set_cons_succ, Go.Proofs.YtcjhligknhpadaaDoorW.PrintLast.i64_w, Go.Proofs.YtcjhligknhpadaaDoorW.PrintLast.i32_w]
              rfl
            refine Go.Proofs.YtcjhligknhpadaaDoorW.PrintLast.pure_ (i := 4) (N := some 64) (v := ?_) (a' := ?_) #[true, true, true, true, true, false, false, false, false] rfl rfl (by kernel_rfl) (fun _ _ _ h => h) (Or.inl ⟨by rfl, ?_⟩) ?_ ?_
            rotate_left
            · intro w'
              go_simp
              with_reducible rfl
            rotate_left
            · simp only [Act.put, List.setIfInBounds_toArray, List.set_cons_zero, List.set_cons_succ, Go.Proofs.YtcjhligknhpadaaDoorW.PrintLast.i64_w, Go.Proofs.YtcjhligknhpadaaDoorW.PrintLast.i32_w]
              rfl
            refine Go.Proofs.YtcjhligknhpadaaDoorW.PrintLast.take_ (i := 5) (N := some 65) (v := ?_) (a' := ?_) #[true, true, true, true, true, true, false, false, false] rfl rfl (by kernel_rfl) (fun _ _ _ h => h) (Or.inl ⟨by rfl, ?_⟩) hHeld ?_ ?_
            rotate_left
            · rintro w' ⟨s0, s1, s2, s3⟩
              go_simp
              with_reducible rfl
            rotate_left
            · simp only [Act.put, List.setIfInBounds_toArray, List.set_cons_zero, List.set_cons_succ, Go.Proofs.YtcjhligknhpadaaDoorW.PrintLast.i64_w, Go.Proofs.YtcjhligknhpadaaDoorW.PrintLast.i32_w]
              rfl
            refine Go.Proofs.YtcjhligknhpadaaDoorW.PrintLast.pure_ (i := 6) (N := some 66) (v := ?_) (a' := ?_) #[true, true, true, true, true, true, true, false, false] rfl rfl (by kernel_rfl) (fun _ _ _ h => h) (Or.inl ⟨by rfl, ?_⟩) ?_ ?_
            rotate_left
            · intro w'
              go_simp
              with_reducible rfl
            rotate_left
            · simp only [Act.put, List.setIfInBounds_toArray, List.set_cons_zero, List.set_cons_succ, Go.Proofs.YtcjhligknhpadaaDoorW.PrintLast.i64_w, Go.Proofs.YtcjhligknhpadaaDoorW.PrintLast.i32_w]
              rfl
            refine Go.Proofs.YtcjhligknhpadaaDoorW.PrintLast.take_ (i := 7) (N := some 67) (v := ?_) (a' := ?_) #[true, true, true, true, true, true, true, true, false] rfl rfl (by kernel_rfl) (fun _ _ _ h => h) (Or.inl ⟨by rfl, ?_⟩) hHeld ?_ ?_
            rotate_left
            · rintro w' ⟨s0, s1, s2, s3⟩
              go_simp
              with_reducible rfl
            rotate_left
            · simp only [Act.put, List.setIfInBounds_toArray, List.set_cons_zero, List.set_cons_succ, Go.Proofs.YtcjhligknhpadaaDoorW.PrintLast.i64_w, Go.Proofs.YtcjhligknhpadaaDoorW.PrintLast.i32_w]
              rfl
            refine Go.Proofs.YtcjhligknhpadaaDoorW.PrintLast.last_ (i := 8) (N := none) #[true, true, true, true, true, true, true, true, true] rfl rfl (by kernel_rfl) (by decide) (fun K hK => ?_)
            obtain ⟨es', c', hrun, hk', hm'⟩ := run_mapUpdate (w := (wr.alloc (.cells #[.int .i64 ls, .slice va lb.length vc] 97)).drew) Tryd.underlying78 Tryd.underlying3 hHeld.2.2.2 HKI.out ls (.slice va lb.length vc)
            refine Go.Proofs.YtcjhligknhpadaaDoorW.PrintLast.skip_ (w1 := setMap (wr.alloc (.cells #[.int .i64 ls, .slice va lb.length vc] 97)).drew (w.heap.size + 3) (.map es' c')) (by rfl) rfl (by go_simp) ?_
            refine hK.out _ _ ?_
            clear hK K
            refine Go.Proofs.YtcjhligknhpadaaDoorW.PrintLast.done_ (by kernel_rfl) ?_
            go_wp2_with fail
            go_roundw
            case rel => exact ⟨k + 1, by go_num, LL.out.take hlt HKP.out HLK.out HBV.out HFC.out HFV.out hk' hm'⟩
            case measure => simp [intOf]; omega
          | false =>
            rw [hkb] at hka2
            have HKP := Lib.hid (show kept safe keep k = false by simp only [kept, hj, hkb, t1]; simp)
            go_wp2_with fail
            go_roundw
            case rel => exact ⟨k + 1, by go_num, LL.out.skip hlt HKP.out _⟩
            case measure => simp [intOf]; omega
        · have t3 : decide (j < keep.length) = false := decide_eq_false h2
          have t4 : decide ((j : Int) < (keep.length : Int)) = false := decide_eq_false (by omega)
          have HKP := Lib.hid (show kept safe keep k = false by simp only [kept, hj, t1, t3]; rfl)
          go_wp2_with fail
          go_roundw
          case rel => exact ⟨k + 1, by go_num, LL.out.skip hlt HKP.out _⟩
          case measure => simp [intOf]; omega
    · have hC3 := LL.out.hC
      have e1 := cell_of (i := 1) hC3 rfl
      obtain ⟨es, c, hFc, hki, hFv⟩ := LL.out.hF
      have hz := LL.out.hz
      have HC3 := Lib.hid hC3
      have HKV := Lib.hid (And.intro hki hFv)
      have HFC := Lib.hid hFc
      have ek : k = n := by omega
      clear hC3 hki hFv
      go_wp2_with fail
      refine (clone_abs (w.heap.size + 3) es c _ hFc).mono ?_
      rintro e w3 ⟨rfl, hb3, hz3, hm3⟩
      have hC4 := (hb3.block (w.heap.size + 2) (by omega)).trans HC3.out
      have g2 := free_of (i := 2) hC4
      have g3 := cell_of (i := 2) hC4 rfl
      have HC4 := Lib.hid hC4
      have HB3 := Lib.hid hb3
      have HM3 := Lib.hid hm3
      clear hC4 hb3 hm3 hFc
      go_wp2_with fail
      go_ret
      subst ek
      obtain ⟨r1, r2⟩ := Lr.done HBW.out LL.out HKV.out HB3.out HM3.out
      exact ⟨_, rfl, r1, r2⟩
set_option maxHeartbeats 2000000 in
set_option maxRecDepth 100000 in
theorem left_none2 [av : Av] (base bs : Nat) (w : World) (D : Nat) (d : Dsk) (safe n : Nat) (KA : Option Addr) (kc : Nat) (keep : List Bool) (h : IsDk base w D d) (hf : d.Fit) (hbw : bs ≤ w.heap.size) (hN : 1 ≤ d.N ∧ d.N ≤ 4096) (hs : safe ≤ n) (hn : n ≤ d.log.length) (hpos : d.log.length = 0)
    (hkl : keep.length ≤ 9223372036854775807) (hk : ∀ j, j < keep.length → ∃ a, KA = some a ∧ w.cell? (a.add j) = some (.bool (keep.getD j false))) :
    Calls Tryd.prog 44 #[.pointer (some ⟨D, 0, none⟩), .int .i64 safe, .int .i64 n, .slice KA keep.length kc] w fun e w' => ∃ C, e = .returned (.pointer (some ⟨C, 0, none⟩)) ∧ IsDk bs w' C (leftD d safe n keep) ∧ Below w.heap.size w w' := by
  obtain ⟨F, M, lv, sv, hd⟩ := h
  obtain ⟨c0, c1, _, c3, _⟩ := hd.cells
  obtain ⟨esF, cF, hF, hFk, hFb⟩ := hd.hF
  have HD := Lib.hid hd
  have HF := Lib.hid hF
  have HFB := Lib.hid (And.intro hFk hFb)
  have HN := Lib.hid hN
  have HS := Lib.hid hs
  have HNL := Lib.hid hn
  have HFit := Lib.hid hf
  have HBW := Lib.hid hbw
  have HK := Lib.hid hk
  have HKL := Lib.hid hkl
  have hDl := lt_of_heap hd.hD
  have hFl := lt_of_heap hF
  obtain ⟨vs, l1, l2, l3⟩ := hd.hL
  obtain ⟨la, lc, rfl⟩ := own_slice l3
  have hcap : d.log.length ≤ lc := by omega
  clear l1 l2 l3
  have hn1 : n ≤ 1000000 := by have := hf.1; omega
  have q1 : n ≤ lc := by omega
  have q2 : (0 : Int) ≤ (n : Int) := by omega
  have q3 : (n : Int) ≤ (lc : Int) := by omega
  clear hd hF hFk hFb hN hs hn hf hbw hk hkl hcap
  go_enter Tryd.func44, Tryd.ntmps44
  go_wp2_with fail
  refine (new_abs d.N _ HN.out.1 HN.out.2).mono ?_
  rintro e w1 ⟨rfl, hb1, hz1, hm0, hm1, hC⟩
  have c1' : w1.cell? ⟨D, 1, none⟩ = some (.map (some F)) := (hb1.cell (p := ⟨D, 1, none⟩) hDl).trans c1
  have hF1 := (hb1.block F hFl).trans HF.out
  have c3' : w1.cell? ⟨D, 3, none⟩ = some (.slice la d.log.length lc) := (hb1.cell (p := ⟨D, 3, none⟩) hDl).trans c3
  have HC1 := Lib.hid hC
  have HB1 := Lib.hid hb1
  have HM1 := Lib.hid hm1
  have HZ1 := Lib.hid hz1
  clear hC hb1 hm0 hm1 hz1 c0 c1 c3
  go_wp2_with fail
  refine (clone_abs F esF cF _ hF1).mono ?_
  rintro e w2 ⟨rfl, hb2, hz2, hm2⟩
  have hs2 : w1.heap.size = w.heap.size + 3 := HZ1.out
  have hC2 := (hb2.block (w.heap.size + 2) (by omega)).trans HC1.out
  have c5 := cell_of (i := 1) hC2 rfl
  have f5 := free_of (i := 1) hC2
  have c6 : w2.cell? ⟨D, 3, none⟩ = some (.slice la d.log.length lc) := (hb2.cell (p := ⟨D, 3, none⟩) (show D < w1.heap.size by omega)).trans c3'
  have n1 : ¬ D = w.heap.size + 2 := by omega
  have n2 : ¬ w.heap.size + 2 = D := by omega
  have n3 : w.heap.size + 2 < w2.heap.size := by omega
  have HC2 := Lib.hid hC2
  have HM2 := Lib.hid hm2
  have HB2 := Lib.hid hb2
  have HZ2 := Lib.hid hz2
  have HS2 := Lib.hid hs2
  clear hC2 hm2 hb2 hz2 hs2 c1' c3'
  go_wp2_with fail
  go_loopw [36] (fun i wr => LrR w d safe keep n i wr) (fun i _ => n - (intOf i).toNat)
  case atStart =>
    have e := HS2.out
    refine ⟨0, rfl, ⟨Nat.zero_le _, ?_, ?_, ?_, ?_⟩⟩
    · simp [World.setCell, Array.getElem?_modify, HC2.out, e]
    · refine ⟨esF, cF, ?_, HFB.out.1, fun k => ?_⟩
      · have h := HM2.out
        rw [e] at h
        simp [World.setCell, Array.getElem?_modify, h]
      · exact (HFB.out.2 k).below (((HB1.out.trans (HB2.out.mono (by omega))).setCell (by simp) _))
    · exact ((HB1.out.trans (HB2.out.mono (by omega))).setCell (by simp) _)
    · have h2 := HZ2.out
      have : (w2.setCell ⟨w.heap.size + 2, 1, none⟩ (.map (some w1.heap.size))).heap.size = w2.heap.size := by simp [World.setCell]
      omega
  case round =>
    obtain ⟨k, rfl, hL⟩ := hrel
    have hkn := hL.kn
    have LL := Lib.hid hL
    clear hL
    by_cases hlt : k < n
    · exfalso; have := HNL.out; omega
    · have hC3 := LL.out.hC
      have e1 := cell_of (i := 1) hC3 rfl
      obtain ⟨es, c, hFc, hki, hFv⟩ := LL.out.hF
      have hz := LL.out.hz
      have HC3 := Lib.hid hC3
      have HKV := Lib.hid (And.intro hki hFv)
      have HFC := Lib.hid hFc
      have ek : k = n := by omega
      clear hC3 hki hFv
      go_wp2_with fail
      refine (clone_abs (w.heap.size + 3) es c _ hFc).mono ?_
      rintro e w3 ⟨rfl, hb3, hz3, hm3⟩
      have hC4 := (hb3.block (w.heap.size + 2) (by omega)).trans HC3.out
      have g2 := free_of (i := 2) hC4
      have g3 := cell_of (i := 2) hC4 rfl
      have HC4 := Lib.hid hC4
      have HB3 := Lib.hid hb3
      have HM3 := Lib.hid hm3
      clear hC4 hb3 hm3 hFc
      go_wp2_with fail
      go_ret
      subst ek
      obtain ⟨r1, r2⟩ := Lr.done HBW.out LL.out HKV.out HB3.out HM3.out
      exact ⟨_, rfl, r1, r2⟩
theorem left_any2 [av : Av] (base bs : Nat) (w : World) (D : Nat) (d : Dsk) (safe n : Nat) (KA : Option Addr) (kc : Nat) (keep : List Bool) (h : IsDk base w D d) (hf : d.Fit) (hbw : bs ≤ w.heap.size) (hN : 1 ≤ d.N ∧ d.N ≤ 4096) (hs : safe ≤ n) (hn : n ≤ d.log.length)
    (hkl : keep.length ≤ 9223372036854775807) (hk : ∀ j, j < keep.length → ∃ a, KA = some a ∧ w.cell? (a.add j) = some (.bool (keep.getD j false))) :
    Calls Tryd.prog 44 #[.pointer (some ⟨D, 0, none⟩), .int .i64 safe, .int .i64 n, .slice KA keep.length kc] w fun e w' => ∃ C, e = .returned (.pointer (some ⟨C, 0, none⟩)) ∧ IsDk bs w' C (leftD d safe n keep) ∧ Below w.heap.size w w' := by
  by_cases hp : 0 < d.log.length
  · exact left_some2 base bs w D d safe n KA kc keep h hf hbw hN hs hn hp hkl hk
  · exact left_none2 base bs w D d safe n KA kc keep h hf hbw hN hs hn (by omega) hkl hk
set_option maxHeartbeats 1000000 in
set_option maxRecDepth 100000 in
theorem cut_any2 [av : Av] (base bs : Nat) (w : World) (D : Nat) (d : Dsk) (KA : Option Addr) (kc : Nat) (keep : List Bool) (h : IsDk base w D d) (hf : d.Fit) (hbw : bs ≤ w.heap.size) (hN : 1 ≤ d.N ∧ d.N ≤ 4096)
    (hkl : keep.length ≤ 9223372036854775807) (hk : ∀ j, j < keep.length → ∃ a, KA = some a ∧ w.cell? (a.add j) = some (.bool (keep.getD j false))) :
    Calls Tryd.prog 25 #[.pointer (some ⟨D, 0, none⟩), .slice KA keep.length kc] w fun e w' => ∃ C, e = .returned (.pointer (some ⟨C, 0, none⟩)) ∧ IsDk bs w' C (leftD d (safeOf d) d.log.length keep) ∧ Below w.heap.size w w' := by
  obtain ⟨hs, hp⟩ := pend_safe d hf
  have HI := Lib.hid h
  have HFit := Lib.hid hf
  obtain ⟨F, M, lv, sv, hd⟩ := h
  obtain ⟨vs, l1, l2, l3⟩ := hd.hL
  obtain ⟨la, lc, rfl⟩ := own_slice l3
  obtain ⟨_, _, _, c3, _⟩ := hd.cells
  have HDL := Lib.hid (lt_of_heap hd.hD)
  have HLEFT := Lib.hid (show ∀ w2, Below w.heap.size w w2 → Calls Tryd.prog 44 #[.pointer (some ⟨D, 0, none⟩), .int .i64 (safeOf d), .int .i64 d.log.length, .slice KA keep.length kc] w2 fun e w' => ∃ C, e = .returned (.pointer (some ⟨C, 0, none⟩)) ∧ IsDk bs w' C (leftD d (safeOf d) d.log.length keep) ∧ Below w.heap.size w w' from fun w2 hb =>
    (left_any2 base bs w2 D d (safeOf d) d.log.length KA kc keep (HI.out.below hb) hf (Nat.le_trans hbw hb.size) hN hs (Nat.le_refl _) hkl (fun j hj => by
      obtain ⟨a, e, hc⟩ := hk j hj
      exact ⟨a, e, (hb.cell (p := a.add j) (World.block_lt_of_cell? w _ hc)).trans hc⟩)).mono fun e w' ⟨C, q1, q2, q3⟩ => ⟨C, q1, q2, hb.trans (q3.mono hb.size)⟩)
  have hm := hf.1
  clear l1 l2 l3 hd hkl hk hbw hN hf
  have HPE := Lib.hid (show pend d = (d.log.length : Int) - safeOf d from hp)
  generalize hpd : (d.log.length : Int) - safeOf d = p at HPE
  generalize safeOf d = sf at *
  have e1 : IntKind.i64.wrap ((d.log.length : Int) - p) = (sf : Int) := by rw [IntWalk.i64_in _ (by omega)]; omega
  generalize d.log.length = m at *
  clear hs hp hpd hm
  go_enter Tryd.func25, Tryd.ntmps25
  go_wp2_with fail
  refine Go.Proofs.YtcjhligknhpadaaDoorW.PrintLast.start_ (n := 17) (S := fun v => v.cell? ⟨D, 3, none⟩ = some (.slice la m lc)) (ds := [16]) #[false, false, false, false, false, false, false, false, false, false, false, false, false, false, false, false, false] (by kernel_rfl) rfl rfl c3 (fun hHeld => ?_)
  refine Go.Proofs.YtcjhligknhpadaaDoorW.PrintLast.pure_ (i := 0) (N := some 7) (v := ?_) (a' := ?_) #[true, false, false, false, false, false, false, false, false, false, false, false, false, false, false, false, false] rfl rfl (by kernel_rfl) (fun _ _ _ h => h) (Or.inl ⟨by rfl, ?_⟩) ?_ ?_
  rotate_left
  · intro w'
    go_simp
    with_reducible rfl
  rotate_left
  · simp only [Act.put, List.setIfInBounds_toArray, List.set_cons_zero, List.set_cons_succ, Go.Proofs.YtcjhligknhpadaaDoorW.PrintLast.i64_w, Go.Proofs.YtcjhligknhpadaaDoorW.PrintLast.i32_w]
    rfl
  refine Go.Proofs.YtcjhligknhpadaaDoorW.PrintLast.pure_ (i := 1) (N := some 8) (v := ?_) (a' := ?_) #[true, true, false, false, false, false, false, false, false, false, false, false, false, false, false, false, false] rfl rfl (by kernel_rfl) (fun _ _ _ h => h) (Or.inl ⟨by rfl, ?_⟩) ?_ ?_
  rotate_left
  · intro w'
    go_simp
    with_reducible rfl
  rotate_left
  · simp only [Act.put, List.setIfInBounds_toArray, List.set_cons_zero, List.set_cons_succ, Go.Proofs.YtcjhligknhpadaaDoorW.PrintLast.i64_w, Go.Proofs.YtcjhligknhpadaaDoorW.PrintLast.i32_w]
    rfl
  refine Go.Proofs.YtcjhligknhpadaaDoorW.PrintLast.pure_ (i := 2) (N := some 9) (v := ?_) (a' := ?_) #[true, true, true, false, false, false, false, false, false, false, false, false, false, false, false, false, false] rfl rfl (by kernel_rfl) (fun _ _ _ h => h) (Or.inl ⟨by rfl, ?_⟩) ?_ ?_
  rotate_left
  · intro w'
    go_simp
    with_reducible rfl
  rotate_left
  · simp only [Act.put, List.setIfInBounds_toArray, List.set_cons_zero, List.set_cons_succ, Go.Proofs.YtcjhligknhpadaaDoorW.PrintLast.i64_w, Go.Proofs.YtcjhligknhpadaaDoorW.PrintLast.i32_w]
    rfl
  refine Go.Proofs.YtcjhligknhpadaaDoorW.PrintLast.pure_ (i := 3) (N := some 10) (v := ?_) (a' := ?_) #[true, true, true, true, false, false, false, false, false, false, false, false, false, false, false, false, false] rfl rfl (by kernel_rfl) (fun _ _ _ h => h) (Or.inl ⟨by rfl, ?_⟩) ?_ ?_
  rotate_left
  · intro w'
    go_simp
    with_reducible rfl
  rotate_left
  · simp only [Act.put, List.setIfInBounds_toArray, List.set_cons_zero, List.set_cons_succ, Go.Proofs.YtcjhligknhpadaaDoorW.PrintLast.i64_w, Go.Proofs.YtcjhligknhpadaaDoorW.PrintLast.i32_w]
    rfl
  refine Go.Proofs.YtcjhligknhpadaaDoorW.PrintLast.take_ (i := 4) (N := some 11) (v := ?_) (a' := ?_) #[true, true, true, true, true, false, false, false, false, false, false, false, false, false, false, false, false] rfl rfl (by kernel_rfl) (fun _ _ _ h => h) (Or.inl ⟨by rfl, ?_⟩) hHeld ?_ ?_
  rotate_left
  · rintro w' s0
    go_simp
    with_reducible rfl
  rotate_left
  · simp only [Act.put, List.setIfInBounds_toArray, List.set_cons_zero, List.set_cons_succ, Go.Proofs.YtcjhligknhpadaaDoorW.PrintLast.i64_w, Go.Proofs.YtcjhligknhpadaaDoorW.PrintLast.i32_w]
    rfl
  refine Go.Proofs.YtcjhligknhpadaaDoorW.PrintLast.take_ (i := 5) (N := some 12) (v := ?_) (a' := ?_) #[true, true, true, true, true, true, false, false, false, false, false, false, false, false, false, false, false] rfl rfl (by kernel_rfl) (fun _ _ _ h => h) (Or.inl ⟨by rfl, ?_⟩) hHeld ?_ ?_
  rotate_left
  · rintro w' s0
    go_simp
    with_reducible rfl
  rotate_left
  · simp only [Act.put, List.setIfInBounds_toArray, List.set_cons_zero, List.set_cons_succ, Go.Proofs.YtcjhligknhpadaaDoorW.PrintLast.i64_w, Go.Proofs.YtcjhligknhpadaaDoorW.PrintLast.i32_w]
    rfl
  refine Go.Proofs.YtcjhligknhpadaaDoorW.PrintLast.pure_ (i := 6) (N := some 13) (v := ?_) (a' := ?_) #[true, true, true, true, true, true, true, false, false, false, false, false, false, false, false, false, false] rfl rfl (by kernel_rfl) (fun _ _ _ h => h) (Or.inl ⟨by rfl, ?_⟩) ?_ ?_
  rotate_left
  · intro w'
    go_simp
    with_reducible rfl
  rotate_left
  · simp only [Act.put, List.setIfInBounds_toArray, List.set_cons_zero, List.set_cons_succ, Go.Proofs.YtcjhligknhpadaaDoorW.PrintLast.i64_w, Go.Proofs.YtcjhligknhpadaaDoorW.PrintLast.i32_w]
    rfl
  refine Go.Proofs.YtcjhligknhpadaaDoorW.PrintLast.pure_ (i := 9) (N := some 16) (v := ?_) (a' := ?_) #[true, true, true, true, true, true, true, false, false, true, false, false, false, false, false, false, false] rfl rfl (by kernel_rfl) (fun _ _ _ h => h) (Or.inl ⟨by rfl, ?_⟩) ?_ ?_
  rotate_left
  · intro w'
    go_simp
    with_reducible rfl
  rotate_left
  · simp only [Act.put, List.setIfInBounds_toArray, List.set_cons_zero, List.set_cons_succ, Go.Proofs.YtcjhligknhpadaaDoorW.PrintLast.i64_w, Go.Proofs.YtcjhligknhpadaaDoorW.PrintLast.i32_w]
    rfl
  refine Go.Proofs.YtcjhligknhpadaaDoorW.PrintLast.pure_ (i := 10) (N := some 17) (v := ?_) (a' := ?_) #[true, true, true, true, true, true, true, false, false, true, true, false, false, false, false, false, false] rfl rfl (by kernel_rfl) (fun _ _ _ h => h) (Or.inl ⟨by rfl, ?_⟩) ?_ ?_
  rotate_left
  · intro w'
    go_simp
    with_reducible rfl
  rotate_left
  · simp only [Act.put, List.setIfInBounds_toArray, List.set_cons_zero, List.set_cons_succ, Go.Proofs.YtcjhligknhpadaaDoorW.PrintLast.i64_w, Go.Proofs.YtcjhligknhpadaaDoorW.PrintLast.i32_w]
    rfl
  refine Go.Proofs.YtcjhligknhpadaaDoorW.PrintLast.pure_ (i := 11) (N := some 18) (v := ?_) (a' := ?_) #[true, true, true, true, true, true, true, false, false, true, true, true, false, false, false, false, false] rfl rfl (by kernel_rfl) (fun _ _ _ h => h) (Or.inl ⟨by rfl, ?_⟩) ?_ ?_
  rotate_left
  · intro w'
    go_simp
    with_reducible rfl
  rotate_left
  · simp only [Act.put, List.setIfInBounds_toArray, List.set_cons_zero, List.set_cons_succ, Go.Proofs.YtcjhligknhpadaaDoorW.PrintLast.i64_w, Go.Proofs.YtcjhligknhpadaaDoorW.PrintLast.i32_w]
    rfl
  refine Go.Proofs.YtcjhligknhpadaaDoorW.PrintLast.take_ (i := 12) (N := some 19) (v := ?_) (a' := ?_) #[true, true, true, true, true, true, true, false, false, true, true, true, true, false, false, false, false] rfl rfl (by kernel_rfl) (fun _ _ _ h => h) (Or.inl ⟨by rfl, ?_⟩) hHeld ?_ ?_
  rotate_left
  · rintro w' s0
    go_simp
    with_reducible rfl
  rotate_left
  · simp only [Act.put, List.setIfInBounds_toArray, List.set_cons_zero, List.set_cons_succ, Go.Proofs.YtcjhligknhpadaaDoorW.PrintLast.i64_w, Go.Proofs.YtcjhligknhpadaaDoorW.PrintLast.i32_w]
    rfl
  refine Go.Proofs.YtcjhligknhpadaaDoorW.PrintLast.take_ (i := 13) (N := some 20) (v := ?_) (a' := ?_) #[true, true, true, true, true, true, true, false, false, true, true, true, true, true, false, false, false] rfl rfl (by kernel_rfl) (fun _ _ _ h => h) (Or.inl ⟨by rfl, ?_⟩) hHeld ?_ ?_
  rotate_left
  · rintro w' s0
    go_simp
    with_reducible rfl
  rotate_left
  · simp only [Act.put, List.setIfInBounds_toArray, List.set_cons_zero, List.set_cons_succ, Go.Proofs.YtcjhligknhpadaaDoorW.PrintLast.i64_w, Go.Proofs.YtcjhligknhpadaaDoorW.PrintLast.i32_w]
    rfl
  refine Go.Proofs.YtcjhligknhpadaaDoorW.PrintLast.pure_ (i := 14) (N := some 21) (v := ?_) (a' := ?_) #[true, true, true, true, true, true, true, false, false, true, true, true, true, true, true, false, false] rfl rfl (by kernel_rfl) (fun _ _ _ h => h) (Or.inl ⟨by rfl, ?_⟩) ?_ ?_
  rotate_left
  · intro w'
    go_simp
    with_reducible rfl
  rotate_left
  · simp only [Act.put, List.setIfInBounds_toArray, List.set_cons_zero, List.set_cons_succ, Go.Proofs.YtcjhligknhpadaaDoorW.PrintLast.i64_w, Go.Proofs.YtcjhligknhpadaaDoorW.PrintLast.i32_w]
    rfl
  refine Go.Proofs.YtcjhligknhpadaaDoorW.PrintLast.one_ (i := 7) (N := some 14) #[true, true, true, true, true, true, true, true, false, true, true, true, true, true, true, false, false] rfl rfl (by kernel_rfl) (by decide) (fun K hK => ?_)
  refine Go.Proofs.YtcjhligknhpadaaDoorW.PrintLast.goes_ Tryd.func20 (by kernel_rfl) rfl #[.pointer (some ⟨D, 0, none⟩)] (by rfl) rfl rfl (by (try simp only [List.map_toArray, List.map_cons, List.map_nil]); first | done | rfl) ?_
  refine (pending_any base _ D d (HI.out.below (Below.refl _ _).drew) HFit.out).mono ?_
  rintro e w2 ⟨he, nq, rfl⟩
  rw [HPE.out] at he
  subst he
  refine ⟨_, rfl, ?_⟩
  refine hK.out _ _ (by go_simp) (fun hHeld => ?_)
  clear hK K
  refine Go.Proofs.YtcjhligknhpadaaDoorW.PrintLast.norm_ (a' := ?_) ?_ ?_
  rotate_left
  · show Act.put _ (some 14) _ = _
    simp only [Act.put, List.setIfInBounds_toArray, List.set_cons_zero, List.set_cons_succ, Go.Proofs.YtcjhligknhpadaaDoorW.PrintLast.i64_w, Go.Proofs.YtcjhligknhpadaaDoorW.PrintLast.i32_w]
    rfl
  refine Go.Proofs.YtcjhligknhpadaaDoorW.PrintLast.pure_ (i := 8) (N := some 15) (v := ?_) (a' := ?_) #[true, true, true, true, true, true, true, true, true, true, true, true, true, true, true, false, false] rfl rfl (by kernel_rfl) (fun _ _ _ h => h) (Or.inl ⟨by rfl, ?_⟩) ?_ ?_
  rotate_left
  · intro w'
    go_simp
    with_reducible rfl
  rotate_left
  · simp only [Act.put, List.setIfInBounds_toArray, List.set_cons_zero, List.set_cons_succ, Go.Proofs.YtcjhligknhpadaaDoorW.PrintLast.i64_w, Go.Proofs.YtcjhligknhpadaaDoorW.PrintLast.i32_w]
    rfl
  refine Go.Proofs.YtcjhligknhpadaaDoorW.PrintLast.one_ (i := 15) (N := some 22) #[true, true, true, true, true, true, true, true, true, true, true, true, true, true, true, true, false] rfl rfl (by kernel_rfl) (by decide) (fun K hK => ?_)
  refine Go.Proofs.YtcjhligknhpadaaDoorW.PrintLast.goes_ Tryd.func44 (by kernel_rfl) rfl #[.pointer (some ⟨D, 0, none⟩), .int .i64 sf, .int .i64 m, .slice KA keep.length kc] (by rfl) rfl rfl (by (try simp only [List.map_toArray, List.map_cons, List.map_nil]); first | done | rfl) ?_
  refine (HLEFT.out _ (below_drewN (Below.refl _ _).drew _)).mono ?_
  rintro e w3 ⟨C, rfl, hi3, hb3⟩
  refine ⟨_, rfl, ?_⟩
  have HI3 := Lib.hid hi3
  have HB3 := Lib.hid hb3
  clear hi3 hb3
  refine hK.out _ _ ((HB3.out.cell (p := ⟨D, 3, none⟩) HDL.out).trans c3) (fun hHeld => ?_)
  clear hK K
  refine Go.Proofs.YtcjhligknhpadaaDoorW.PrintLast.norm_ (a' := ?_) ?_ ?_
  rotate_left
  · show Act.put _ (some 22) _ = _
    simp only [Act.put, List.setIfInBounds_toArray, List.set_cons_zero, List.set_cons_succ, Go.Proofs.YtcjhligknhpadaaDoorW.PrintLast.i64_w, Go.Proofs.YtcjhligknhpadaaDoorW.PrintLast.i32_w]
    rfl
  refine Go.Proofs.YtcjhligknhpadaaDoorW.PrintLast.pure_ (i := 16) (N := some 4) (v := ?_) (a' := ?_) #[true, true, true, true, true, true, true, true, true, true, true, true, true, true, true, true, true] rfl rfl (by kernel_rfl) (fun _ _ _ h => h) (Or.inl ⟨by rfl, ?_⟩) ?_ ?_
  rotate_left
  · intro w'
    go_simp
    with_reducible rfl
  rotate_left
  · simp only [Act.put, List.setIfInBounds_toArray, List.set_cons_zero, List.set_cons_succ, Go.Proofs.YtcjhligknhpadaaDoorW.PrintLast.i64_w, Go.Proofs.YtcjhligknhpadaaDoorW.PrintLast.i32_w]
    rfl
  refine Go.Proofs.YtcjhligknhpadaaDoorW.PrintLast.done_ (by kernel_rfl) ?_
  go_wp2
  go_ret
  exact ⟨C, rfl, HI3.out, HB3.out⟩
set_option maxHeartbeats 1000000 in
set_option maxRecDepth 100000 in
theorem cutat_some2 [av : Av] (base bs : Nat) (w : World) (D : Nat) (d : Dsk) (n : Int) (KA : Option Addr) (kc : Nat) (keep : List Bool) (h : IsDk base w D d) (hf : d.Fit) (hpos : 0 < d.syncs.length) (hbw : bs ≤ w.heap.size) (hN : 1 ≤ d.N ∧ d.N ≤ 4096)
    (hkl : keep.length ≤ 9223372036854775807) (hk : ∀ j, j < keep.length → ∃ a, KA = some a ∧ w.cell? (a.add j) = some (.bool (keep.getD j false))) :
    Calls Tryd.prog 26 #[.pointer (some ⟨D, 0, none⟩), .int .i64 n, .slice KA keep.length kc] w fun e w' => ∃ C, e = .returned (.pointer (some ⟨C, 0, none⟩)) ∧ IsDk bs w' C (leftD d (safeAt d.syncs (upTo d n) d.syncs.length) (upTo d n) keep) ∧ Below w.heap.size w w' := by
  have HI := Lib.hid h
  have HFit := Lib.hid hf
  obtain ⟨F, M, lv, sv, hd⟩ := h
  obtain ⟨vs, l1, l2, l3⟩ := hd.hL
  obtain ⟨la, lc, rfl⟩ := own_slice l3
  obtain ⟨_, _, _, c3, c4⟩ := hd.cells
  have hsa := safeAt_le d.syncs (upTo d n) (fun s hs => (hf.2.2 s hs).1) d.syncs.length
  have HLEFT := Lib.hid (show ∀ w2 (y x : Int), y = (safeAt d.syncs (upTo d n) d.syncs.length : Nat) → x = (upTo d n : Nat) → Below w.heap.size w w2 → Calls Tryd.prog 44 #[.pointer (some ⟨D, 0, none⟩), .int .i64 y, .int .i64 x, .slice KA keep.length kc] w2 fun e w' => ∃ C, e = .returned (.pointer (some ⟨C, 0, none⟩)) ∧ IsDk bs w' C (leftD d (safeAt d.syncs (upTo d n) d.syncs.length) (upTo d n) keep) ∧ Below w.heap.size w w' from fun w2 y x hy hx hb => by
    subst hy hx
    exact (left_any2 base bs w2 D d _ _ KA kc keep (HI.out.below hb) hf (Nat.le_trans hbw hb.size) hN hsa (upTo_le d n) hkl (fun j hj => by
      obtain ⟨a, e, hc⟩ := hk j hj
      exact ⟨a, e, (hb.cell (p := a.add j) (World.block_lt_of_cell? w _ hc)).trans hc⟩)).mono fun e w' ⟨C, q1, q2, q3⟩ => ⟨C, q1, q2, hb.trans (q3.mono hb.size)⟩)
  have hm := hf.1
  have hsl := hf.2.1
  obtain ⟨g, sc, rfl, _, _⟩ := sync_cell hd 0 hpos
  have HSC := Lib.hid (show ∀ i (hi : i < d.syncs.length), w.cell? ⟨g, i, none⟩ = some (.int .i64 d.syncs[i]) from fun i hi => by
    obtain ⟨g', c', e, _, hc⟩ := sync_cell hd i hi
    cases e
    exact hc)
  have hu := upTo_eq d n
  have HP0 := Lib.hid (show ∀ i (hi : i < d.syncs.length), 0 ≤ d.syncs[i] from fun i hi => (hf.2.2 _ (List.getElem_mem hi)).1)
  generalize upTo d n = u at *
  clear l1 l2 l3 hd hkl hk hbw hN hf hsa
  generalize d.log.length = m at *
  rcases (by omega : ((m : Int) < n ∧ 0 < (m : Int) ∧ u = m) ∨ ((m : Int) < n ∧ (m : Int) ≤ 0 ∧ u = 0) ∨ (n ≤ (m : Int) ∧ 0 < n ∧ n = (u : Int)) ∨ (n ≤ (m : Int) ∧ n ≤ 0 ∧ u = 0)) with ⟨t1, t2, t3⟩ | ⟨t1, t2, t3⟩ | ⟨t1, t2, t3⟩ | ⟨t1, t2, t3⟩
  · clear hu
    subst t3
    have hum : u ≤ 1000000 := by omega
    go_enter Tryd.func26, Tryd.ntmps26
    go_wp2_with fail
    go_loop [7, 25] (fun sf i => ∃ k : Nat, k ≤ d.syncs.length ∧ i = .int .i64 k ∧ sf = .int .i64 (safeAt d.syncs u k : Nat)) (fun _ i => d.syncs.length - (intOf i).toNat)
    case atStart => exact ⟨0, Nat.zero_le _, rfl, rfl⟩
    case round =>
      obtain ⟨k, hk, rfl, rfl⟩ := hrel
      by_cases hlt : k < d.syncs.length
      · have hcell := HSC.out k hlt
        have hps := HP0.out k hlt
        have HREC := Lib.hid (show safeAt d.syncs u (k + 1) = if d.syncs[k] < ((u : Nat) : Int) then d.syncs[k].toNat else safeAt d.syncs u k by simp [safeAt, List.getD_eq_getElem?_getD, hlt])
        generalize d.syncs[k] = s at *
        have q5 : decide (k < d.syncs.length) = true := decide_eq_true hlt
        by_cases hs : s < (u : Int)
        · have t5 : decide (s < (u : Int)) = true := decide_eq_true hs
          go_wp2_with fail
          go_round
          case rel => exact ⟨k + 1, by omega, by go_num, by rw [HREC.out, if_pos (by omega), Int.toNat_of_nonneg hps]⟩
          case measure => simp [intOf]; omega
        · have t5 : decide (s < (u : Int)) = false := decide_eq_false hs
          go_wp2_with fail
          go_round
          case rel => exact ⟨k + 1, by omega, by go_num, by rw [HREC.out, if_neg (by omega)]⟩
          case measure => simp [intOf]; omega
      · have ek : k = d.syncs.length := by omega
        subst ek
        go_wp2_with fail
        refine (HLEFT.out _ _ _ rfl (by omega) (Below.refl _ _)).mono ?_
        rintro e w3 ⟨C, rfl, hi3, hb3⟩
        have HI3 := Lib.hid hi3
        have HB3 := Lib.hid hb3
        clear hi3 hb3
        go_wp2
        go_ret
        exact ⟨C, rfl, HI3.out, HB3.out⟩

  · clear hu
    subst t3
    have hum : (0 : Nat) ≤ 1000000 := by omega
    go_enter Tryd.func26, Tryd.ntmps26
    go_wp2_with fail
    go_loop [7, 25] (fun sf i => ∃ k : Nat, k ≤ d.syncs.length ∧ i = .int .i64 k ∧ sf = .int .i64 (safeAt d.syncs (0 : Nat) k : Nat)) (fun _ i => d.syncs.length - (intOf i).toNat)
    case atStart => exact ⟨0, Nat.zero_le _, rfl, rfl⟩
    case round =>
      obtain ⟨k, hk, rfl, rfl⟩ := hrel
      by_cases hlt : k < d.syncs.length
      · have hcell := HSC.out k hlt
        have hps := HP0.out k hlt
        have HREC := Lib.hid (show safeAt d.syncs (0 : Nat) (k + 1) = if d.syncs[k] < (((0 : Nat) : Nat) : Int) then d.syncs[k].toNat else safeAt d.syncs (0 : Nat) k by simp [safeAt, List.getD_eq_getElem?_getD, hlt])
        generalize d.syncs[k] = s at *
        have q5 : decide (k < d.syncs.length) = true := decide_eq_true hlt
        by_cases hs : s < (0 : Int)
        · have t5 : decide (s < (0 : Int)) = true := decide_eq_true hs
          go_wp2_with fail
          go_round
          case rel => exact ⟨k + 1, by omega, by go_num, by rw [HREC.out, if_pos (by omega), Int.toNat_of_nonneg hps]⟩
          case measure => simp [intOf]; omega
        · have t5 : decide (s < (0 : Int)) = false := decide_eq_false hs
          go_wp2_with fail
          go_round
          case rel => exact ⟨k + 1, by omega, by go_num, by rw [HREC.out, if_neg (by omega)]⟩
          case measure => simp [intOf]; omega
      · have ek : k = d.syncs.length := by omega
        subst ek
        go_wp2_with fail
        refine (HLEFT.out _ _ _ rfl (by omega) (Below.refl _ _)).mono ?_
        rintro e w3 ⟨C, rfl, hi3, hb3⟩
        have HI3 := Lib.hid hi3
        have HB3 := Lib.hid hb3
        clear hi3 hb3
        go_wp2
        go_ret
        exact ⟨C, rfl, HI3.out, HB3.out⟩

  · clear hu
    subst t3
    have hum : u ≤ 1000000 := by omega
    go_enter Tryd.func26, Tryd.ntmps26
    go_wp2_with fail
    go_loop [7, 25] (fun sf i => ∃ k : Nat, k ≤ d.syncs.length ∧ i = .int .i64 k ∧ sf = .int .i64 (safeAt d.syncs u k : Nat)) (fun _ i => d.syncs.length - (intOf i).toNat)
    case atStart => exact ⟨0, Nat.zero_le _, rfl, rfl⟩
    case round =>
      obtain ⟨k, hk, rfl, rfl⟩ := hrel
      by_cases hlt : k < d.syncs.length
      · have hcell := HSC.out k hlt
        have hps := HP0.out k hlt
        have HREC := Lib.hid (show safeAt d.syncs u (k + 1) = if d.syncs[k] < ((u : Nat) : Int) then d.syncs[k].toNat else safeAt d.syncs u k by simp [safeAt, List.getD_eq_getElem?_getD, hlt])
        generalize d.syncs[k] = s at *
        have q5 : decide (k < d.syncs.length) = true := decide_eq_true hlt
        by_cases hs : s < (u : Int)
        · have t5 : decide (s < (u : Int)) = true := decide_eq_true hs
          go_wp2_with fail
          go_round
          case rel => exact ⟨k + 1, by omega, by go_num, by rw [HREC.out, if_pos (by omega), Int.toNat_of_nonneg hps]⟩
          case measure => simp [intOf]; omega
        · have t5 : decide (s < (u : Int)) = false := decide_eq_false hs
          go_wp2_with fail
          go_round
          case rel => exact ⟨k + 1, by omega, by go_num, by rw [HREC.out, if_neg (by omega)]⟩
          case measure => simp [intOf]; omega
      · have ek : k = d.syncs.length := by omega
        subst ek
        go_wp2_with fail
        refine (HLEFT.out _ _ _ rfl (by omega) (Below.refl _ _)).mono ?_
        rintro e w3 ⟨C, rfl, hi3, hb3⟩
        have HI3 := Lib.hid hi3
        have HB3 := Lib.hid hb3
        clear hi3 hb3
        go_wp2
        go_ret
        exact ⟨C, rfl, HI3.out, HB3.out⟩

  · clear hu
    subst t3
    have hum : (0 : Nat) ≤ 1000000 := by omega
    go_enter Tryd.func26, Tryd.ntmps26
    go_wp2_with fail
    go_loop [7, 25] (fun sf i => ∃ k : Nat, k ≤ d.syncs.length ∧ i = .int .i64 k ∧ sf = .int .i64 (safeAt d.syncs (0 : Nat) k : Nat)) (fun _ i => d.syncs.length - (intOf i).toNat)
    case atStart => exact ⟨0, Nat.zero_le _, rfl, rfl⟩
    case round =>
      obtain ⟨k, hk, rfl, rfl⟩ := hrel
      by_cases hlt : k < d.syncs.length
      · have hcell := HSC.out k hlt
        have hps := HP0.out k hlt
        have HREC := Lib.hid (show safeAt d.syncs (0 : Nat) (k + 1) = if d.syncs[k] < (((0 : Nat) : Nat) : Int) then d.syncs[k].toNat else safeAt d.syncs (0 : Nat) k by simp [safeAt, List.getD_eq_getElem?_getD, hlt])
        generalize d.syncs[k] = s at *
        have q5 : decide (k < d.syncs.length) = true := decide_eq_true hlt
        by_cases hs : s < (0 : Int)
        · have t5 : decide (s < (0 : Int)) = true := decide_eq_true hs
          go_wp2_with fail
          go_round
          case rel => exact ⟨k + 1, by omega, by go_num, by rw [HREC.out, if_pos (by omega), Int.toNat_of_nonneg hps]⟩
          case measure => simp [intOf]; omega
        · have t5 : decide (s < (0 : Int)) = false := decide_eq_false hs
          go_wp2_with fail
          go_round
          case rel => exact ⟨k + 1, by omega, by go_num, by rw [HREC.out, if_neg (by omega)]⟩
          case measure => simp [intOf]; omega
      · have ek : k = d.syncs.length := by omega
        subst ek
        go_wp2_with fail
        refine (HLEFT.out _ _ _ rfl (by omega) (Below.refl _ _)).mono ?_
        rintro e w3 ⟨C, rfl, hi3, hb3⟩
        have HI3 := Lib.hid hi3
        have HB3 := Lib.hid hb3
        clear hi3 hb3
        go_wp2
        go_ret
        exact ⟨C, rfl, HI3.out, HB3.out⟩
set_option maxHeartbeats 1000000 in
set_option maxRecDepth 100000 in
theorem cutat_none2 [av : Av] (base bs : Nat) (w : World) (D : Nat) (d : Dsk) (n : Int) (KA : Option Addr) (kc : Nat) (keep : List Bool) (h : IsDk base w D d) (hf : d.Fit) (hpos : d.syncs.length = 0) (hbw : bs ≤ w.heap.size) (hN : 1 ≤ d.N ∧ d.N ≤ 4096)
    (hkl : keep.length ≤ 9223372036854775807) (hk : ∀ j, j < keep.length → ∃ a, KA = some a ∧ w.cell? (a.add j) = some (.bool (keep.getD j false))) :
    Calls Tryd.prog 26 #[.pointer (some ⟨D, 0, none⟩), .int .i64 n, .slice KA keep.length kc] w fun e w' => ∃ C, e = .returned (.pointer (some ⟨C, 0, none⟩)) ∧ IsDk bs w' C (leftD d (safeAt d.syncs (upTo d n) d.syncs.length) (upTo d n) keep) ∧ Below w.heap.size w w' := by
  have HI := Lib.hid h
  have HFit := Lib.hid hf
  obtain ⟨F, M, lv, sv, hd⟩ := h
  obtain ⟨vs, l1, l2, l3⟩ := hd.hL
  obtain ⟨la, lc, rfl⟩ := own_slice l3
  obtain ⟨_, _, _, c3, c4⟩ := hd.cells
  have hsa := safeAt_le d.syncs (upTo d n) (fun s hs => (hf.2.2 s hs).1) d.syncs.length
  have HLEFT := Lib.hid (show ∀ w2 (y x : Int), y = (safeAt d.syncs (upTo d n) d.syncs.length : Nat) → x = (upTo d n : Nat) → Below w.heap.size w w2 → Calls Tryd.prog 44 #[.pointer (some ⟨D, 0, none⟩), .int .i64 y, .int .i64 x, .slice KA keep.length kc] w2 fun e w' => ∃ C, e = .returned (.pointer (some ⟨C, 0, none⟩)) ∧ IsDk bs w' C (leftD d (safeAt d.syncs (upTo d n) d.syncs.length) (upTo d n) keep) ∧ Below w.heap.size w w' from fun w2 y x hy hx hb => by
    subst hy hx
    exact (left_any2 base bs w2 D d _ _ KA kc keep (HI.out.below hb) hf (Nat.le_trans hbw hb.size) hN hsa (upTo_le d n) hkl (fun j hj => by
      obtain ⟨a, e, hc⟩ := hk j hj
      exact ⟨a, e, (hb.cell (p := a.add j) (World.block_lt_of_cell? w _ hc)).trans hc⟩)).mono fun e w' ⟨C, q1, q2, q3⟩ => ⟨C, q1, q2, hb.trans (q3.mono hb.size)⟩)
  have hm := hf.1
  have hsl := hf.2.1
  obtain ⟨sa, sc, rfl⟩ := own_slice hd.hS
  have HZ := Lib.hid hpos
  clear hpos
  have hu := upTo_eq d n
  have HP0 := Lib.hid (show ∀ i (hi : i < d.syncs.length), 0 ≤ d.syncs[i] from fun i hi => (hf.2.2 _ (List.getElem_mem hi)).1)
  generalize upTo d n = u at *
  clear l1 l2 l3 hd hkl hk hbw hN hf hsa
  generalize d.log.length = m at *
  rcases (by omega : ((m : Int) < n ∧ 0 < (m : Int) ∧ u = m) ∨ ((m : Int) < n ∧ (m : Int) ≤ 0 ∧ u = 0) ∨ (n ≤ (m : Int) ∧ 0 < n ∧ n = (u : Int)) ∨ (n ≤ (m : Int) ∧ n ≤ 0 ∧ u = 0)) with ⟨t1, t2, t3⟩ | ⟨t1, t2, t3⟩ | ⟨t1, t2, t3⟩ | ⟨t1, t2, t3⟩
  · clear hu
    subst t3
    have hum : u ≤ 1000000 := by omega
    go_enter Tryd.func26, Tryd.ntmps26
    go_wp2_with fail
    go_loop [7, 25] (fun sf i => ∃ k : Nat, k ≤ d.syncs.length ∧ i = .int .i64 k ∧ sf = .int .i64 (safeAt d.syncs u k : Nat)) (fun _ i => d.syncs.length - (intOf i).toNat)
    case atStart => exact ⟨0, Nat.zero_le _, rfl, rfl⟩
    case round =>
      obtain ⟨k, hk, rfl, rfl⟩ := hrel
      by_cases hlt : k < d.syncs.length
      · exact absurd hlt (by rw [HZ.out]; exact Nat.not_lt_zero _)
      · have ek : k = d.syncs.length := by omega
        subst ek
        go_wp2_with fail
        refine (HLEFT.out _ _ _ rfl (by omega) (Below.refl _ _)).mono ?_
        rintro e w3 ⟨C, rfl, hi3, hb3⟩
        have HI3 := Lib.hid hi3
        have HB3 := Lib.hid hb3
        clear hi3 hb3
        go_wp2
        go_ret
        exact ⟨C, rfl, HI3.out, HB3.out⟩

  · clear hu
    subst t3
    have hum : (0 : Nat) ≤ 1000000 := by omega
    go_enter Tryd.func26, Tryd.ntmps26
    go_wp2_with fail
    go_loop [7, 25] (fun sf i => ∃ k : Nat, k ≤ d.syncs.length ∧ i = .int .i64 k ∧ sf = .int .i64 (safeAt d.syncs (0 : Nat) k : Nat)) (fun _ i => d.syncs.length - (intOf i).toNat)
    case atStart => exact ⟨0, Nat.zero_le _, rfl, rfl⟩
    case round =>
      obtain ⟨k, hk, rfl, rfl⟩ := hrel
      by_cases hlt : k < d.syncs.length
      · exact absurd hlt (by rw [HZ.out]; exact Nat.not_lt_zero _)
      · have ek : k = d.syncs.length := by omega
        subst ek
        go_wp2_with fail
        refine (HLEFT.out _ _ _ rfl (by omega) (Below.refl _ _)).mono ?_
        rintro e w3 ⟨C, rfl, hi3, hb3⟩
        have HI3 := Lib.hid hi3
        have HB3 := Lib.hid hb3
        clear hi3 hb3
        go_wp2
        go_ret
        exact ⟨C, rfl, HI3.out, HB3.out⟩

  · clear hu
    subst t3
    have hum : u ≤ 1000000 := by omega
    go_enter Tryd.func26, Tryd.ntmps26
    go_wp2_with fail
    go_loop [7, 25] (fun sf i => ∃ k : Nat, k ≤ d.syncs.length ∧ i = .int .i64 k ∧ sf = .int .i64 (safeAt d.syncs u k : Nat)) (fun _ i => d.syncs.length - (intOf i).toNat)
    case atStart => exact ⟨0, Nat.zero_le _, rfl, rfl⟩
    case round =>
      obtain ⟨k, hk, rfl, rfl⟩ := hrel
      by_cases hlt : k < d.syncs.length
      · exact absurd hlt (by rw [HZ.out]; exact Nat.not_lt_zero _)
      · have ek : k = d.syncs.length := by omega
        subst ek
        go_wp2_with fail
        refine (HLEFT.out _ _ _ rfl (by omega) (Below.refl _ _)).mono ?_
        rintro e w3 ⟨C, rfl, hi3, hb3⟩
        have HI3 := Lib.hid hi3
        have HB3 := Lib.hid hb3
        clear hi3 hb3
        go_wp2
        go_ret
        exact ⟨C, rfl, HI3.out, HB3.out⟩

  · clear hu
    subst t3
    have hum : (0 : Nat) ≤ 1000000 := by omega
    go_enter Tryd.func26, Tryd.ntmps26
    go_wp2_with fail
    go_loop [7, 25] (fun sf i => ∃ k : Nat, k ≤ d.syncs.length ∧ i = .int .i64 k ∧ sf = .int .i64 (safeAt d.syncs (0 : Nat) k : Nat)) (fun _ i => d.syncs.length - (intOf i).toNat)
    case atStart => exact ⟨0, Nat.zero_le _, rfl, rfl⟩
    case round =>
      obtain ⟨k, hk, rfl, rfl⟩ := hrel
      by_cases hlt : k < d.syncs.length
      · exact absurd hlt (by rw [HZ.out]; exact Nat.not_lt_zero _)
      · have ek : k = d.syncs.length := by omega
        subst ek
        go_wp2_with fail
        refine (HLEFT.out _ _ _ rfl (by omega) (Below.refl _ _)).mono ?_
        rintro e w3 ⟨C, rfl, hi3, hb3⟩
        have HI3 := Lib.hid hi3
        have HB3 := Lib.hid hb3
        clear hi3 hb3
        go_wp2
        go_ret
        exact ⟨C, rfl, HI3.out, HB3.out⟩
theorem cutat_any2 [av : Av] (base bs : Nat) (w : World) (D : Nat) (d : Dsk) (n : Int) (KA : Option Addr) (kc : Nat) (keep : List Bool) (h : IsDk base w D d) (hf : d.Fit) (hbw : bs ≤ w.heap.size) (hN : 1 ≤ d.N ∧ d.N ≤ 4096)
    (hkl : keep.length ≤ 9223372036854775807) (hk : ∀ j, j < keep.length → ∃ a, KA = some a ∧ w.cell? (a.add j) = some (.bool (keep.getD j false))) :
    Calls Tryd.prog 26 #[.pointer (some ⟨D, 0, none⟩), .int .i64 n, .slice KA keep.length kc] w fun e w' => ∃ C, e = .returned (.pointer (some ⟨C, 0, none⟩)) ∧ IsDk bs w' C (leftD d (safeAt d.syncs (upTo d n) d.syncs.length) (upTo d n) keep) ∧ Below w.heap.size w w' := by
  by_cases hp : 0 < d.syncs.length
  · exact cutat_some2 base bs w D d n KA kc keep h hf hp hbw hN hkl hk
  · exact cutat_none2 base bs w D d n KA kc keep h hf (by omega) hbw hN hkl hk
end Dk
end Go.Proofs.YtcjhligknhpadaaDoor

namespace Go.Proofs.YtcjhligknhpadaaDoor
open Go.RowKit Go.Proofs.YtcjhligknhpadaaDoor.Wp Go.Proofs.YtcjhligknhpadaaDoorW.PrintWords Go.Proofs.YtcjhligknhpadaaDoorW.PrintLast
set_option linter.unusedVariables false
set_option linter.unusedSimpArgs false
namespace Dk

theorem DkOf.fit {base : Nat} {w : World} {D : Nat} {d : Dsk} (h : DkOf base w D d) (hn : d.log.length ≤ 1000000) (hs : d.syncs.length ≤ 1000000) : d.Fit := ⟨hn, hs, h.2.1.syncs⟩
theorem dk_writes (base : Nat) (w : World) (D : Nat) (d : Dsk) (h : DkOf base w D d) : Calls Tryd.prog 27 #[.pointer (some ⟨D, 0, none⟩)] w fun e w' => e = .returned (.int .i64 d.log.length) ∧ w = w' := by
  obtain ⟨F, M, lv, sv, bD, bF, bM, ne, hD, hF, hM, ⟨vs, l1, l2, l3⟩, hS⟩ := h.1
  obtain ⟨la, lc, rfl⟩ := own_slice l3
  exact writes_any D d.log.length lc la w (cell_of hD rfl)
theorem dk_cut (base bs : Nat) (w : World) (D : Nat) (d : Dsk) (kv : Value) (keep : List Bool) (h : DkOf base w D d) (hn : d.log.length ≤ 1000000) (hs : d.syncs.length ≤ 1000000) (hb : bs ≤ w.heap.size) (hk : BoolsIn w kv keep) : Calls Tryd.prog 25 #[.pointer (some ⟨D, 0, none⟩), kv] w fun e w' => ∃ C, e = .returned (.pointer (some ⟨C, 0, none⟩)) ∧ DkOf bs w' C (leftD d (safeOf d) d.log.length keep) ∧ Below w.heap.size w w' := by
  obtain ⟨a, c, rfl, h1, h2⟩ := hk
  refine (cut_any2 (av := av0) base bs w D d a c keep h.1 (h.fit hn hs) hb h.2.2 h1 h2).mono ?_
  rintro e w' ⟨C, rfl, q1, q2⟩
  exact ⟨C, rfl, ⟨q1, h.2.1.left _ _ _ (Nat.le_refl _), h.2.2⟩, q2⟩
theorem dk_cutat (base bs : Nat) (w : World) (D : Nat) (d : Dsk) (n : Nat) (kv : Value) (keep : List Bool) (h : DkOf base w D d) (hn : d.log.length ≤ 1000000) (hs : d.syncs.length ≤ 1000000) (hb : bs ≤ w.heap.size) (hk : BoolsIn w kv keep) (hnl : n ≤ d.log.length) : Calls Tryd.prog 26 #[.pointer (some ⟨D, 0, none⟩), .int .i64 n, kv] w fun e w' => ∃ C, e = .returned (.pointer (some ⟨C, 0, none⟩)) ∧ DkOf bs w' C (leftD d (safeAt d.syncs n d.syncs.length) n keep) ∧ Below w.heap.size w w' := by
  obtain ⟨a, c, rfl, h1, h2⟩ := hk
  have e : upTo d n = n := by unfold upTo; omega
  refine (cutat_any2 (av := av0) base bs w D d n a c keep h.1 (h.fit hn hs) hb h.2.2 h1 h2).mono ?_
  rintro e w' ⟨C, rfl, q1, q2⟩
  rw [e] at q1
  exact ⟨C, rfl, ⟨q1, h.2.1.left _ _ _ hnl, h.2.2⟩, q2⟩
theorem safe_last {d : Dsk} (h : Synced d) : safeOf d = d.log.length := by
  unfold safeOf
  rw [h]
  simp
/-- what is safe is left whole -/
theorem left_synced {d : Dsk} (h : Wf d) (hy : Synced d) (keep : List Bool) : (leftD d (safeOf d) d.log.length keep).now = d.now := by
  rw [safe_last hy]
  show leftM d.first d.log d.log.length keep d.log.length = d.now
  rw [leftM_all _ _ _ _ _ (fun i hi => by simp [kept, hi]), h.now]
/-- a log stays where nothing of its own is turned: of what may be turned, one row of slices, that is not its own -/
theorem LogOf.out {base : Nat} {w w' : World} {P D I : Nat} {rv : Value} {l : Lg} {d : Dsk} (h : LogOf base w P D I rv l d) (ob : Option Nat) (hm : ∀ (i : Nat) (o : Obj), w.heap[i]? = some o → some i ≠ ob → w'.heap[i]? = some o) (hob : ∀ i, ob = some i → (∃ cur, w.heap[i]? = some (.cells cur 22 (0, 0))) ∧ rv.ownBlock ≠ some i) : LogOf base w' P D I rv l d := by
  have mv : ∀ (i : Nat) (o : Obj), w.heap[i]? = some o → (∀ cur, o ≠ .cells cur 22 (0, 0)) → w'.heap[i]? = some o := fun i o ho hn => hm i o ho (fun q => by
    obtain ⟨⟨cur, hc⟩, _⟩ := hob i q.symm
    rw [hc] at ho
    cases ho
    exact hn _ rfl)
  have ne : ∀ (cur : Array Value) (t : TypeId), t ≠ 22 → ∀ c, (Obj.cells cur t (0, 0)) ≠ .cells c 22 (0, 0) := fun cur t ht c q => ht (Obj.cells.inj q).2.1
  have byt : ∀ (av : Av) v l, Byts (av := av) w v l → Byts (av := av) w' v l := fun av v l h => ⟨h.1, own_move h.2 fun g cur hg hh => mv g _ hh (ne _ _ (by decide))⟩
  obtain ⟨⟨b1, b2, b3, hP, hI, b4, b5, b6, b7, ⟨vs, r1, r2, r3⟩⟩, ⟨F, M, lv, sv, bD, bF, bM, nn, hD, hF, hM, ⟨us, l1, l2, l3⟩, hS⟩, hg, hz⟩ := h
  have mp : ∀ M m, MapB (av := av0.with I) w M m → MapB (av := av0.with I) w' M m := fun M m ⟨es, c, h1, h2, h3⟩ => ⟨es, c, mv M _ h1 (fun cur q => by cases q), h2, fun q => byt _ _ _ (h3 q)⟩
  refine ⟨@LgAt.mk (av0.with I) _ _ _ _ _ _ _ b1 b2 b3 (mv P _ hP (ne _ _ (by decide))) (mv I _ hI (ne _ _ (by decide))) b4 b5 b6 b7 ⟨vs, r1, fun p hp => byt _ _ _ (r2 p hp), ?_⟩, ⟨F, M, lv, sv, @DkAt.mk (av0.with I) _ _ _ _ _ _ _ _ bD bF bM nn (mv D _ hD (ne _ _ (by decide))) (mp _ _ hF) (mp _ _ hM) ⟨us, l1, fun p hp => byt _ _ _ (l2 p hp), own_move l3 fun g cur _ hh => mv g _ hh (ne _ _ (by decide))⟩ (own_move hS fun g cur _ hh => mv g _ hh (ne _ _ (by decide)))⟩, hg, hz⟩
  exact own_move r3 fun g cur hg' hh => hm g _ hh (fun q => (hob g q.symm).2 hg')
/-- a list of records that a law keeps beside a log: its bytes lie as they lay in w0 -/
def AllOf (base : Nat) (w0 w : World) (av : Value) (rs : List (List Int)) (P I : Nat) (rv : Value) : Prop :=
  (∃ vs : List Value, vs.length = rs.length ∧ (∀ p ∈ rs.zip vs, BytesIn w0 p.2 p.1) ∧ w.ownsRow base 22 1 av rs.length vs) ∧ ∀ i, av.ownBlock = some i → ¬ LgOwn P I rv i
theorem AllOf.kind {base : Nat} {w0 w : World} {av : Value} {rs : List (List Int)} {P I : Nat} {rv : Value} (h : AllOf base w0 w av rs P I rv) : ∀ i, av.ownBlock = some i → (base ≤ i ∧ i < w.heap.size ∧ ∃ cur, w.heap[i]? = some (.cells cur 22 (0, 0))) := fun i hi => by
  obtain ⟨⟨vs, h1, h2, h3⟩, _⟩ := h
  obtain ⟨hb, cur, hc⟩ := own_kind h3 hi
  exact ⟨hb, lt_of_heap hc, cur, hc⟩
theorem AllOf.move {base : Nat} {w0 w w' : World} {av : Value} {rs : List (List Int)} {P I P' I' : Nat} {rv rv' : Value} (h : AllOf base w0 w av rs P I rv) (hm : ∀ (i : Nat) (cur : Array Value), av.ownBlock = some i → w.heap[i]? = some (.cells cur 22 (0, 0)) → w'.heap[i]? = some (.cells cur 22 (0, 0))) (ho : ∀ i, av.ownBlock = some i → ¬ LgOwn P' I' rv' i) : AllOf base w0 w' av rs P' I' rv' := by
  obtain ⟨⟨vs, h1, h2, h3⟩, h4⟩ := h
  exact ⟨⟨vs, h1, h2, own_move h3 fun g cur hg hh => hm g cur hg hh⟩, ho⟩
theorem AllOf.keep {base : Nat} {w0 w w' : World} {av : Value} {rs : List (List Int)} {P I : Nat} {rv rv' : Value} (h : AllOf base w0 w av rs P I rv) (hk : LKeep (LgOwn P I rv) w w') (ho : ∀ i, i < w.heap.size → LgOwn P I rv' i → LgOwn P I rv i) : AllOf base w0 w' av rs P I rv' :=
  h.move (fun i cur hi hc => hk.all i _ hc (h.2 i hi)) (fun i hi q => h.2 i hi (ho i (h.kind i hi).2.1 q))
theorem AllOf.chg {base : Nat} {w0 w w' : World} {av : Value} {rs : List (List Int)} {P I : Nat} {rv : Value} (h : AllOf base w0 w av rs P I rv) (hk : LChg base (LgOwn P I rv) w w') : AllOf base w0 w' av rs P I rv :=
  h.move (fun i cur hi hc => hk.keep i _ hc rfl (h.2 i hi)) h.2
theorem AllOf.below {base : Nat} {w0 w w' : World} {av : Value} {rs : List (List Int)} {P I : Nat} {rv : Value} (h : AllOf base w0 w av rs P I rv) (hk : Below w.heap.size w w') : AllOf base w0 w' av rs P I rv :=
  h.move (fun i cur hi hc => (hk.block i (lt_of_heap hc)).trans hc) h.2
theorem AllOf.in_ {base : Nat} {w0 w : World} {av : Value} {rs : List (List Int)} {P I : Nat} {rv : Value} (h : AllOf base w0 w av rs P I rv) (hb : Below w0.heap.size w0 w) (hn : rs.length ≤ 1000000) : RowsIn w av rs := by
  obtain ⟨⟨vs, h1, h2, h3⟩, _⟩ := h
  obtain ⟨a, c, rfl⟩ := own_slice h3
  refine ⟨a, c, rfl, by omega, fun j hj => ?_⟩
  rcases h3.2 with ⟨_, q⟩ | ⟨g, cap, cur, q, q2, q3, q4, q5⟩
  · omega
  · have hv : vs[j]? = some vs[j] := List.getElem?_eq_getElem (by omega)
    have hc := World.ownsRow.cells h3 (g := g) (by rw [q]; rfl) j vs[j] hv
    cases q
    refine ⟨_, vs[j], rfl, hc, (h2 (rs[j], vs[j]) ?_).mono (below_cells hb)⟩
    rw [List.mem_iff_getElem]
    exact ⟨j, by rw [List.length_zip]; omega, List.getElem_zip⟩
/-- one record more in the list -/
theorem AllOf.snoc {base : Nat} {w0 w w' : World} {av av' u : Value} {rs : List (List Int)} {b : List Int} {vs : List Value} {P I : Nat} {rv : Value} (h1 : vs.length = rs.length) (h2 : ∀ p ∈ rs.zip vs, BytesIn w0 p.2 p.1) (h4 : ∀ i, av.ownBlock = some i → ¬ LgOwn P I rv i) (hu : BytesIn w0 u b) (ho : w'.ownsRow base 22 1 av' (rs.length + 1) (vs ++ [u])) (hv : av'.ownBlock = av.ownBlock ∨ ∃ b, av'.ownBlock = some b ∧ w.heap.size ≤ b) (hs : ∀ i, LgOwn P I rv i → i < w.heap.size) : AllOf base w0 w' av' (rs ++ [b]) P I rv := by
  refine ⟨⟨vs ++ [u], by simp [h1], fun p hp => ?_, by rw [List.length_append]; exact ho⟩, fun i hi q => ?_⟩
  · rw [List.zip_append h1.symm] at hp
    rcases List.mem_append.1 hp with hp | hp
    · exact h2 p hp
    · simp only [List.zip_cons_cons, List.zip_nil_right, List.mem_singleton] at hp
      subst hp
      exact hu
  · rcases hv with hv | ⟨b', hv, hlt⟩
    · exact h4 i (hv ▸ hi) q
    · rw [hv] at hi
      cases hi
      have := hs _ q
      omega
theorem LogOf.ownlt {base : Nat} {w : World} {P D I : Nat} {rv : Value} {l : Lg} {d : Dsk} (h : LogOf base w P D I rv l d) : ∀ i, LgOwn P I rv i → i < w.heap.size := by
  have hn := h.nums
  obtain ⟨vs, r1, r2, r3⟩ := LgAt.hR (av := av0.with I) h.1
  rintro i (rfl | rfl | q)
  · exact hn.2.2.1
  · exact hn.2.2.2.1
  · obtain ⟨cur, hc⟩ := (own_kind r3 q).2
    exact lt_of_heap hc
theorem flush_log {l : Lg} {d : Dsk} (h : Good l d) : (d.log.length < (flD l d).log.length ↔ l.dirty < l.fin) ∧ (¬ l.dirty < l.fin → flD l d = d) := by
  have hd := h.dirty_le
  have hle := h.le
  unfold flD flushD
  by_cases hlt : l.dirty < l.fin
  · rw [if_pos hlt]
    refine ⟨⟨fun _ => hlt, fun _ => ?_⟩, fun q => absurd hlt q⟩
    have h1 := batch_fields l.first (zcut l.img l.dirty) l.dirty l.fin d
    unfold oneD
    split
    · have h2 := batch_fields l.first l.img l.dirty (l.dirty + 1) (batchD l.first (zcut l.img l.dirty) l.dirty l.fin d)
      omega
    · omega
  · rw [if_neg hlt]
    exact ⟨⟨fun q => by omega, fun q => absurd q hlt⟩, fun _ => rfl⟩
/-- all or nothing, plainly: what is read of what a loss of power leaves within a flush -/
theorem whole_cut {l : Lg} {d : Dsk} (h : Good l d) (n : Nat) (keep : List Bool) (hn0 : d.log.length < n) (hn : n ≤ (flD l d).log.length) :
    (opL l.first l.S (leftD (flD l d) (safeAt (flD l d).syncs n (flD l d).syncs.length) n keep)).recs = l.recs.take l.flushed ∨ (opL l.first l.S (leftD (flD l d) (safeAt (flD l d).syncs n (flD l d).syncs.length) n keep)).recs = l.recs := by
  have hd := h.dirty_le
  have hlt : l.dirty < l.fin := (flush_log h).1.1 (by omega)
  have hle := h.le
  have hz : zfrom l.img l.fin = l.img := by
    have q := zfrom_img (rs := l.recs) (l.S * 128 - l.fin) l.recs.length
    rw [List.take_of_length_le (Nat.le_refl _), List.drop_of_length_le (Nat.le_refl _), ← h.fin, ← h.img] at q
    rw [q, show sizeF [] = 0 from rfl, Nat.zero_add, ← h.img]
  have hlen := h.len
  have hrl := h.recs_le
  obtain ⟨c1, c2⟩ := flush_cut h.wf h.sy l.first l.img l.dirty l.fin l.S n keep hlen hlt (by omega) hd.2.1 (hd.2.2 hlt) h.reg hz hn0 hn _ rfl
  unfold opL openL
  rcases c2 with c2 | c2
  · left
    have e : readF crcF (l.S * 128 + 1) (zfrom l.img l.dirty) = l.recs.take l.flushed := by
      rw [h.img, h.dirty, zfrom_img]
      exact read_frames _ _ _ (fun r hr => h.ok r (List.mem_of_mem_take hr)) (by rw [List.length_take]; omega)
    have hsz : sizeF (readF crcF (l.S * 128 + 1) (zfrom l.img l.dirty)) = l.dirty := by rw [e, h.dirty]
    have q := read_same (crc := crcF) (k := l.S * 128 + 1) (l := zfrom l.img l.dirty) (by rw [c1, zfrom_len _ _ (by omega), hlen]) (by rw [hsz]; exact c2) (by rw [hsz]; exact isZ_drop_zfrom _ _ (by omega)) (l.S * 128 + 1) (by rw [e, List.length_take]; omega)
    exact q.trans e
  · right
    show readF crcF (l.S * 128 + 1) (Dk.reg (leftD (flD l d) (safeAt (flD l d).syncs n (flD l d).syncs.length) n keep).now l.first l.S) = l.recs
    have c2' : Dk.reg (leftD (flD l d) (safeAt (flD l d).syncs n (flD l d).syncs.length) n keep).now l.first l.S = l.img := c2
    rw [c2', h.img]
    exact read_frames _ _ _ h.ok (by omega)
end Dk
end Go.Proofs.YtcjhligknhpadaaDoor

namespace Go.Proofs.YtcjhligknhpadaaDoor
open Go.RowKit Go.Proofs.YtcjhligknhpadaaDoor.Wp Go.Proofs.YtcjhligknhpadaaDoorW.PrintWords Go.Proofs.YtcjhligknhpadaaDoorW.PrintLast
set_option linter.unusedVariables false
set_option linter.unusedSimpArgs false
namespace Dk

theorem appL_same (l : Lg) (b : List Int) : (appL l b).first = l.first ∧ (appL l b).S = l.S ∧ (appL l b).flushed = l.flushed := by
  unfold appL
  split <;> exact ⟨rfl, rfl, rfl⟩
theorem appL_yes {l : Lg} {b : List Int} (h : appC l b = 0) : (appL l b).recs = l.recs ++ [b] := by
  unfold appL
  rw [if_pos ((appC_zero l b).1 h)]
theorem appL_no {l : Lg} {b : List Int} (h : ¬ appC l b = 0) : appL l b = l := by
  unfold appL
  rw [if_neg (fun q => h ((appC_zero l b).2 q))]
theorem BytesIn.apart {w : World} {a : Option Addr} {n c P I B : Nat} {l : List Int} (h : BytesIn w (.slice a n c) l) (hB : w.heap.size ≤ B) (hP : B ≤ P) (hI : B ≤ I) : l.length = n ∧ (0 < n → ∀ ad, a = some ad → ad.block ≠ I ∧ ad.block ≠ P) := by
  obtain ⟨a', c', h1, _, _, h4⟩ := h
  cases h1
  refine ⟨rfl, fun hn ad q => ?_⟩
  obtain ⟨ad', q', hc⟩ := h4 0 hn
  rw [q] at q'
  cases q'
  have := World.block_lt_of_cell? w _ hc
  have e : (ad.add 0).block = ad.block := rfl
  omega
theorem RowsIn.take {w : World} {a : Option Addr} {m c : Nat} {rs : List (List Int)} (h : RowsIn w (.slice a m c) rs) (n : Nat) (hn : n ≤ rs.length) : RowsIn w (.slice a n c) (rs.take n) := by
  obtain ⟨a', c', h1, h2, h3⟩ := h
  cases h1
  have hl : (rs.take n).length = n := by rw [List.length_take]; omega
  refine ⟨a, c, by rw [hl], by omega, fun j hj => ?_⟩
  rw [hl] at hj
  obtain ⟨ad, u, q1, q2, q3⟩ := h3 j (by omega)
  exact ⟨ad, u, q1, q2, by rw [List.getElem_take]; exact q3⟩
/-- behind a flush all is left, whatever a loss of power keeps -/
theorem all_left {l : Lg} {d : Dsk} (h : Good l d) (keep : List Bool) : (opL l.first l.S (leftD (flD l d) (safeOf (flD l d)) (flD l d).log.length keep)).recs = l.recs := by
  have hgf := h.flush
  have q := hgf.read
  have e : (flL l).recs.take (flL l).flushed = l.recs := List.take_of_length_le (Nat.le_refl _)
  have q' : readF crcF (l.S * 128 + 1) (reg (flD l d).now l.first l.S) = l.recs := q.trans e
  unfold opL openL
  rw [left_synced (d := flD l d) hgf.wf hgf.sy]
  exact q'
/-- a record of a law's argument is appended -/
theorem log_append_in (B : Nat) (w wr : World) (P D I : Nat) (rv : Value) (l : Lg) (d : Dsk) (u : Value) (b : List Int) (h : LogOf B wr P D I rv l d) (hw : w.heap.size ≤ B) (hb0 : 0 < B) (ht : Tab w) (h0 : 0 < w.heap.size) (hu : BytesIn w u b) (hm : Below w.heap.size w wr) :
    Calls Tryd.prog 11 #[.pointer (some ⟨P, 0, none⟩), u] wr fun e w' => e = .returned (.int .i64 (appC l b)) ∧ ∃ rv', LogOf B w' P D I rv' (appL l b) d ∧ LKeep (LgOwn P I rv) wr w' ∧ (∀ i, i < wr.heap.size → LgOwn P I rv' i → LgOwn P I rv i) := by
  obtain ⟨a, c, rfl, h1, h2, h3⟩ := hu
  have hn := h.nums
  have hap := BytesIn.apart (B := B) (P := P) (I := I) ⟨a, c, rfl, h1, h2, h3⟩ hw hn.1 hn.2.1
  exact log_append B wr P D I rv l d a b.length c b h (by omega) hb0 (ht.mono hm h0) rfl h1 (fun j hj => by
    obtain ⟨ad, q1, q2⟩ := h3 j hj
    exact ⟨ad, q1, below_cells hm _ _ q2⟩) hap.2
end Dk
end Go.Proofs.YtcjhligknhpadaaDoor

namespace Go.Proofs.YtcjhligknhpadaaDoor
open Go.RowKit Go.Proofs.YtcjhligknhpadaaDoor.Wp Go.Proofs.YtcjhligknhpadaaDoorW.PrintWords Go.Proofs.YtcjhligknhpadaaDoorW.PrintLast
set_option linter.unusedVariables false
set_option linter.unusedSimpArgs false
namespace Dk

/-- power goes within an opening: the next one tells the same -/
theorem again_open {d : Dsk} (h : Wf d) (h0 : d.log = []) (hs0 : d.syncs = []) (x y n : Nat) (keep : List Bool) (hn : n ≤ (opD x y d).log.length) : (opL x y (leftD (opD x y d) (safeAt (opD x y d).syncs n (opD x y d).syncs.length) n keep)).recs = (opL x y d).recs :=
  open_cut h h0 hs0 x y (y * 128 + 1) n keep (by omega) hn
/-- power goes within a formatting: the next opening tells what was there, or nothing -/
theorem again_format {l : Lg} {d : Dsk} (h : Good l d) (hf : l.flushed = l.recs.length) (hS : 1 ≤ l.S) (n : Nat) (keep : List Bool) (hn0 : d.log.length < n) (hn : n ≤ (foD l.first l.S d).log.length) : (opL l.first l.S (leftD (foD l.first l.S d) (safeAt (foD l.first l.S d).syncs n (foD l.first l.S d).syncs.length) n keep)).recs = l.recs ∨ (opL l.first l.S (leftD (foD l.first l.S d) (safeAt (foD l.first l.S d).syncs n (foD l.first l.S d).syncs.length) n keep)).recs = [] := by
  obtain ⟨c1, c2⟩ := format_cut h.wf h.sy l.first l.S n keep (by omega) hn0 hn _ rfl
  unfold opL openL
  rcases c2 with c2 | c2
  · left
    have q := h.read
    rw [hf, List.take_of_length_le (Nat.le_refl _)] at q
    exact (congrArg (readF crcF (l.S * 128 + 1)) c2).trans q
  · right
    exact readF_none _ _ (frameAt_zero crcF _ c2)
theorem foD_log (x y : Nat) (d : Dsk) (hy : 1 ≤ y) : (foD x y d).log.length = d.log.length + 1 + y := by
  unfold foD blankD
  have hz : (zfrom (zer (y * 128)) 0).length = y * 128 := by rw [zfrom_len _ _ (Nat.zero_le _), zer_len]
  have h1 : (oneD x (zfrom (zer (y * 128)) 0) 0 d).log.length = d.log.length + 1 := by
    unfold oneD
    rw [if_pos (by omega), (batch_fields x (zfrom (zer (y * 128)) 0) 0 1 d).2.2.1]
  rw [(batch_fields x (zfrom (zer (y * 128)) 0) 0 (zer (y * 128)).length (oneD x (zfrom (zer (y * 128)) 0) 0 d)).2.2.1, h1, zer_len]
  omega
theorem RowsAt.chg {av : Av} {base B : Nat} {w w' : World} {v : Value} {rs : List (List Int)} (h : RowsAt (av := av) base w v rs) (hc : Chg B DK w w') : RowsAt (av := av) base w' v rs :=
  RowsAt.move (av := av) h fun k cur => ⟨fun hh => hc.keep k _ hh rfl, fun _ hh => hc.keep k _ hh rfl⟩
theorem RowsAt.below {av : Av} {base : Nat} {w w' : World} {v : Value} {rs : List (List Int)} (h : RowsAt (av := av) base w v rs) (hc : Below w.heap.size w w') : RowsAt (av := av) base w' v rs :=
  RowsAt.move (av := av) h fun k cur => ⟨fun hh => (hc.block k (lt_of_heap hh)).trans hh, fun _ hh => (hc.block k (lt_of_heap hh)).trans hh⟩
theorem opL_S (x y : Nat) (d : Dsk) : (opL x y d).S = y := rfl
theorem opL_first (x y : Nat) (d : Dsk) : (opL x y d).first = x := rfl
theorem opL_flushed (x y : Nat) (d : Dsk) : (opL x y d).flushed = (opL x y d).recs.length := rfl
/-- what a loop of appends holds, where no list is kept -/
def LAg (B : Nat) (w0 : World) (P D I : Nat) (d : Dsk) (fs : List (List Int)) (i : Value) (wr : World) : Prop :=
  ∃ k : Nat, k ≤ fs.length ∧ i = .int .i64 k ∧ ∃ rv l, LogOf B wr P D I rv l d ∧ l.first = 0 ∧ l.S = 40 ∧ Below B w0 wr
end Dk
end Go.Proofs.YtcjhligknhpadaaDoor

namespace Go.Proofs.YtcjhligknhpadaaDoor
open Go.RowKit Go.Proofs.YtcjhligknhpadaaDoor.Wp Go.Proofs.YtcjhligknhpadaaDoorW.PrintWords Go.Proofs.YtcjhligknhpadaaDoorW.PrintLast
set_option linter.unusedVariables false
set_option linter.unusedSimpArgs false
namespace Dk

/-- two new structs -/
def AgF (w1 w' : World) (b c : Nat) : Prop := Below w1.heap.size w1 w' ∧ w'.heap[b]? = some (.cells #[.int .i64 0, .slice none 0 0] 55 (0, 0)) ∧ w'.heap[c]? = some (.cells #[.int .i64 0, .slice none 0 0] 55 (0, 0)) ∧ b ≠ c ∧ w1.heap.size ≤ b ∧ w1.heap.size ≤ c ∧ w'.heap.size = w1.heap.size + 2
theorem agf_1 (w : World) : AgF w ((w.drew.alloc (.cells #[.int .i64 0, .slice none 0 0] 55)).alloc (.cells #[.int .i64 0, .slice none 0 0] 55)) w.heap.size (w.heap.size + 1) := by
  have h1 := World.alloc_heap_new w.drew (.cells #[.int .i64 0, .slice none 0 0] 55)
  have h2 := World.alloc_heap_new (w.drew.alloc (.cells #[.int .i64 0, .slice none 0 0] 55)) (.cells #[.int .i64 0, .slice none 0 0] 55)
  have hs : (w.drew.alloc (.cells #[.int .i64 0, .slice none 0 0] 55)).heap.size = w.heap.size + 1 := Array.size_push _
  rw [hs] at h2
  refine ⟨((Below.refl _ w).drew.alloc (Nat.le_refl _) _).alloc (by simp) _, ((World.grownBy_alloc (w.drew.alloc (.cells #[.int .i64 0, .slice none 0 0] 55)) (.cells #[.int .i64 0, .slice none 0 0] 55) none).block w.heap.size (by rw [hs]; omega) (by simp)).trans h1, h2, by omega, Nat.le_refl _, by omega, by simp⟩
theorem agf_2 (w : World) : AgF w ((w.drew.alloc (.cells #[.int .i64 0, .slice none 0 0] 55)).alloc (.cells #[.int .i64 0, .slice none 0 0] 55)) (w.heap.size + 1) w.heap.size := by
  obtain ⟨h1, h2, h3, h4, h5, h6, h7⟩ := agf_1 w
  exact ⟨h1, h3, h2, fun q => h4 q.symm, h6, h5, h7⟩
theorem below_set {B : Nat} {w w' : World} {b o : Nat} {v : Value} (h : Below B w w') (hb : B ≤ b) : Below B w (w'.setCell ⟨b, o, none⟩ v) :=
  ⟨h.os, h.tape, h.output, by rw [set_size]; exact h.size, fun i hi => (set_ne (by omega)).trans (h.block i hi)⟩
set_option maxHeartbeats 4000000 in
set_option maxRecDepth 100000 in
theorem again_walk (v1 v2 : Value) (x1 : Int) (ka1 : Option Addr) (nk1 kc1 : Nat) (x2 : Int) (ka2 : Option Addr) (nk2 kc2 : Nat) (w : World) (ht : Tab w) {fs ms : List (List Int)} {kp1 kp2 : List Bool} (h1 : RowsIn w v1 fs) (h2 : RowsIn w v2 ms) (hx1 : -9223372036854775808 ≤ x1 ∧ x1 ≤ 9223372036854775807) (hk1 : BoolsIn w (.slice ka1 nk1 kc1) kp1) (hx2 : -9223372036854775808 ≤ x2 ∧ x2 ≤ 9223372036854775807) (hk2 : BoolsIn w (.slice ka2 nk2 kc2) kp2) :
    Calls Tryd.prog 6 #[.agg #[v1, v2, .int .i64 x1, (.slice ka1 nk1 kc1), .int .i64 x2, (.slice ka2 nk2 kc2)]] w fun e w' => e = .returned (.bool true) ∧ Below w.heap.size w w' := by
  have hp0 := ht.pos
  have HT := Lib.hid ht
  obtain ⟨a0, c0, rfl, n0, r0⟩ := h1
  obtain ⟨a1, c1, rfl, n1, r1⟩ := h2
  have R0 := Lib.hid r0
  have R1 := Lib.hid r1
  have HX1 := Lib.hid hx1
  have HX2 := Lib.hid hx2
  have HK1 := Lib.hid hk1
  have HK2 := Lib.hid hk2
  clear ht r0 r1 hx1 hx2 hk1 hk2
  generalize hv1 : Value.slice a0 fs.length c0 = v1
  generalize hv2 : Value.slice a1 ms.length c1 = v2
  have HV1 := Lib.hid hv1
  have HV2 := Lib.hid hv2
  clear hv1 hv2
  go_enter Tryd.func6, Tryd.ntmps6
  go_wp2_with fail
  have hbox : (w.alloc (.cells #[v1, v2, .int .i64 x1, (.slice ka1 nk1 kc1), .int .i64 x2, (.slice ka2 nk2 kc2)] 57)).heap[w.heap.size]? = some (.cells #[v1, v2, .int .i64 x1, (.slice ka1 nk1 kc1), .int .i64 x2, (.slice ka2 nk2 kc2)] 57 (0, 0)) := World.alloc_heap_new w _
  have hb1 : Below w.heap.size w (w.alloc (.cells #[v1, v2, .int .i64 x1, (.slice ka1 nk1 kc1), .int .i64 x2, (.slice ka2 nk2 kc2)] 57)) := (Below.refl _ _).alloc (Nat.le_refl _) _
  have hsz1 : (w.alloc (.cells #[v1, v2, .int .i64 x1, (.slice ka1 nk1 kc1), .int .i64 x2, (.slice ka2 nk2 kc2)] 57)).heap.size = w.heap.size + 1 := Array.size_push _
  generalize w.alloc (.cells #[v1, v2, .int .i64 x1, (.slice ka1 nk1 kc1), .int .i64 x2, (.slice ka2 nk2 kc2)] 57) = w1 at hbox hb1 hsz1 ⊢
  have HBOX := Lib.hid hbox
  have HB1 := Lib.hid hb1
  have hle1 : w.heap.size ≤ w1.heap.size := by omega
  have hlt1 : w.heap.size < w1.heap.size := by omega
  have g0 := cell_of (i := 0) hbox rfl
  have g1 := cell_of (i := 1) hbox rfl
  have g2 := cell_of (i := 2) hbox rfl
  have g3 := cell_of (i := 3) hbox rfl
  have g4 := cell_of (i := 4) hbox rfl
  have g5 := cell_of (i := 5) hbox rfl
  have HBX := Lib.hid (show ∀ W, Below w1.heap.size w1 W → W.cell? ⟨w.heap.size, 0, none⟩ = some v1 ∧ W.cell? ⟨w.heap.size, 1, none⟩ = some v2 ∧ W.cell? ⟨w.heap.size, 2, none⟩ = some (.int .i64 x1) ∧ W.cell? ⟨w.heap.size, 3, none⟩ = some (.slice ka1 nk1 kc1) ∧ W.cell? ⟨w.heap.size, 4, none⟩ = some (.int .i64 x2) ∧ W.cell? ⟨w.heap.size, 5, none⟩ = some (.slice ka2 nk2 kc2) from fun W hW => by
    have q := (hW.block w.heap.size hlt1).trans hbox
    exact ⟨cell_of q rfl, cell_of q rfl, cell_of q rfl, cell_of q rfl, cell_of q rfl, cell_of q rfl⟩)
  clear hbox hb1 hsz1
  refine Go.Proofs.YtcjhligknhpadaaDoorW.PrintLast.start_ (n := 14) (S := fun v => v.cell? ⟨w.heap.size, 0, none⟩ = some v1 ∧ v.cell? ⟨w.heap.size, 1, none⟩ = some v2 ∧ v.cell? ⟨w.heap.size, 2, none⟩ = some (.int .i64 x1) ∧ v.cell? ⟨w.heap.size, 3, none⟩ = some (.slice ka1 nk1 kc1) ∧ v.cell? ⟨w.heap.size, 4, none⟩ = some (.int .i64 x2) ∧ v.cell? ⟨w.heap.size, 5, none⟩ = some (.slice ka2 nk2 kc2)) (ds := [13]) #[false, false, false, false, false, false, false, false, false, false, false, false, false, false] (by kernel_rfl) rfl rfl ⟨g0, g1, g2, g3, g4, g5⟩ (fun hHeld => ?_)
  refine Go.Proofs.YtcjhligknhpadaaDoorW.PrintLast.pure_ (i := 0) (N := some 28) (v := ?_) (a' := ?_) #[true, false, false, false, false, false, false, false, false, false, false, false, false, false] rfl rfl (by kernel_rfl) (fun _ _ _ h => h) (Or.inl ⟨by rfl, ?_⟩) ?_ ?_
  rotate_left
  · intro w'
    go_simp
    with_reducible rfl
  rotate_left
  · simp only [Act.put, List.setIfInBounds_toArray, List.set_cons_zero, List.set_cons_succ, Go.Proofs.YtcjhligknhpadaaDoorW.PrintLast.i64_w, Go.Proofs.YtcjhligknhpadaaDoorW.PrintLast.i32_w]
    rfl
  refine Go.Proofs.YtcjhligknhpadaaDoorW.PrintLast.take_ (i := 1) (N := some 29) (v := ?_) (a' := ?_) #[true, true, false, false, false, false, false, false, false, false, false, false, false, false] rfl rfl (by kernel_rfl) (fun _ _ _ h => h) (Or.inl ⟨by rfl, ?_⟩) hHeld ?_ ?_
  rotate_left
  · rintro w' ⟨s0, s1, s2, s3, s4, s5⟩
    go_simp
    with_reducible rfl
  rotate_left
  · simp only [Act.put, List.setIfInBounds_toArray, List.set_cons_zero, List.set_cons_succ, Go.Proofs.YtcjhligknhpadaaDoorW.PrintLast.i64_w, Go.Proofs.YtcjhligknhpadaaDoorW.PrintLast.i32_w]
    rfl
  refine Go.Proofs.YtcjhligknhpadaaDoorW.PrintLast.pure_ (i := 2) (N := some 30) (v := ?_) (a' := ?_) #[true, true, true, false, false, false, false, false, false, false, false, false, false, false] rfl rfl (by kernel_rfl) (fun _ _ _ h => h) (Or.inl ⟨by rfl, ?_⟩) ?_ ?_
  rotate_left
  · intro w'
    go_simp
    with_reducible rfl
  rotate_left
  · simp only [Act.put, List.setIfInBounds_toArray, List.set_cons_zero, List.set_cons_succ, Go.Proofs.YtcjhligknhpadaaDoorW.PrintLast.i64_w, Go.Proofs.YtcjhligknhpadaaDoorW.PrintLast.i32_w]
    rfl
  refine Go.Proofs.YtcjhligknhpadaaDoorW.PrintLast.take_ (i := 3) (N := some 31) (v := ?_) (a' := ?_) #[true, true, true, true, false, false, false, false, false, false, false, false, false, false] rfl rfl (by kernel_rfl) (fun _ _ _ h => h) (Or.inl ⟨by rfl, ?_⟩) hHeld ?_ ?_
  rotate_left
  · rintro w' ⟨s0, s1, s2, s3, s4, s5⟩
    go_simp
    with_reducible rfl
  rotate_left
  · simp only [Act.put, List.setIfInBounds_toArray, List.set_cons_zero, List.set_cons_succ, Go.Proofs.YtcjhligknhpadaaDoorW.PrintLast.i64_w, Go.Proofs.YtcjhligknhpadaaDoorW.PrintLast.i32_w]
    rfl
  refine Go.Proofs.YtcjhligknhpadaaDoorW.PrintLast.pure_ (i := 4) (N := some 32) (v := ?_) (a' := ?_) #[true, true, true, true, true, false, false, false, false, false, false, false, false, false] rfl rfl (by kernel_rfl) (fun _ _ _ h => h) (Or.inl ⟨by rfl, ?_⟩) ?_ ?_
  rotate_left
  · intro w'
    go_simp
    with_reducible rfl
  rotate_left
  · simp only [Act.put, List.setIfInBounds_toArray, List.set_cons_zero, List.set_cons_succ, Go.Proofs.YtcjhligknhpadaaDoorW.PrintLast.i64_w, Go.Proofs.YtcjhligknhpadaaDoorW.PrintLast.i32_w]
    rfl
  refine Go.Proofs.YtcjhligknhpadaaDoorW.PrintLast.take_ (i := 5) (N := some 33) (v := ?_) (a' := ?_) #[true, true, true, true, true, true, false, false, false, false, false, false, false, false] rfl rfl (by kernel_rfl) (fun _ _ _ h => h) (Or.inl ⟨by rfl, ?_⟩) hHeld ?_ ?_
  rotate_left
  · rintro w' ⟨s0, s1, s2, s3, s4, s5⟩
    go_simp
    with_reducible rfl
  rotate_left
  · simp only [Act.put, List.setIfInBounds_toArray, List.set_cons_zero, List.set_cons_succ, Go.Proofs.YtcjhligknhpadaaDoorW.PrintLast.i64_w, Go.Proofs.YtcjhligknhpadaaDoorW.PrintLast.i32_w]
    rfl
  refine Go.Proofs.YtcjhligknhpadaaDoorW.PrintLast.pure_ (i := 6) (N := some 34) (v := ?_) (a' := ?_) #[true, true, true, true, true, true, true, false, false, false, false, false, false, false] rfl rfl (by kernel_rfl) (fun _ _ _ h => h) (Or.inl ⟨by rfl, ?_⟩) ?_ ?_
  rotate_left
  · intro w'
    go_simp
    with_reducible rfl
  rotate_left
  · simp only [Act.put, List.setIfInBounds_toArray, List.set_cons_zero, List.set_cons_succ, Go.Proofs.YtcjhligknhpadaaDoorW.PrintLast.i64_w, Go.Proofs.YtcjhligknhpadaaDoorW.PrintLast.i32_w]
    rfl
  refine Go.Proofs.YtcjhligknhpadaaDoorW.PrintLast.take_ (i := 7) (N := some 35) (v := ?_) (a' := ?_) #[true, true, true, true, true, true, true, true, false, false, false, false, false, false] rfl rfl (by kernel_rfl) (fun _ _ _ h => h) (Or.inl ⟨by rfl, ?_⟩) hHeld ?_ ?_
  rotate_left
  · rintro w' ⟨s0, s1, s2, s3, s4, s5⟩
    go_simp
    with_reducible rfl
  rotate_left
  · simp only [Act.put, List.setIfInBounds_toArray, List.set_cons_zero, List.set_cons_succ, Go.Proofs.YtcjhligknhpadaaDoorW.PrintLast.i64_w, Go.Proofs.YtcjhligknhpadaaDoorW.PrintLast.i32_w]
    rfl
  refine Go.Proofs.YtcjhligknhpadaaDoorW.PrintLast.join_ 4 #[true, true, true, true, true, true, true, true, true, true, false, false, false, false] (σ := Nat × Nat) (fun s => [(5, .pointer (some ⟨s.1, 0, none⟩)), (6, .pointer (some ⟨s.2, 0, none⟩))]) (fun s w' => AgF w1 w' s.1 s.2) ?_ ?_
  rotate_left
  · intro hcont
    refine Go.Proofs.YtcjhligknhpadaaDoorW.PrintLast.two_ (i := 8) (j := 9) (Ni := some 5) (Nj := some 6) #[true, true, true, true, true, true, true, true, true, false, false, false, false, false] #[true, true, true, true, true, true, true, true, false, true, false, false, false, false] rfl rfl rfl rfl (by kernel_rfl) (by decide) (by decide) (fun K hK => ?_) (fun K hK => ?_)
    · refine Go.Proofs.YtcjhligknhpadaaDoorW.PrintLast.value_ (w1 := (w1.drew).alloc (.cells #[.int .i64 0, .slice none 0 0] 55)) (v := .pointer (some ⟨(w1.drew).heap.size, 0, none⟩)) (by rfl) rfl (by go_simp) ?_
      refine hK.out _ _ ⟨cell_al _ hHeld.1, cell_al _ hHeld.2.1, cell_al _ hHeld.2.2.1, cell_al _ hHeld.2.2.2.1, cell_al _ hHeld.2.2.2.2.1, cell_al _ hHeld.2.2.2.2.2⟩ (fun hHeld => ?_)
      clear hK K
      refine Go.Proofs.YtcjhligknhpadaaDoorW.PrintLast.one_ (i := 9) (N := some 6) #[true, true, true, true, true, true, true, true, true, true, false, false, false, false] rfl rfl (by kernel_rfl) (by decide) (fun K hK => ?_)
      refine Go.Proofs.YtcjhligknhpadaaDoorW.PrintLast.value_ (w1 := (w1.drew.alloc (.cells #[.int .i64 0, .slice none 0 0] 55)).alloc (.cells #[.int .i64 0, .slice none 0 0] 55)) (v := .pointer (some ⟨(w1.drew.alloc (.cells #[.int .i64 0, .slice none 0 0] 55)).heap.size, 0, none⟩)) (by rfl) rfl (by go_simp) ?_
      refine hK.out _ _ ⟨cell_al _ hHeld.1, cell_al _ hHeld.2.1, cell_al _ hHeld.2.2.1, cell_al _ hHeld.2.2.2.1, cell_al _ hHeld.2.2.2.2.1, cell_al _ hHeld.2.2.2.2.2⟩ (fun hHeld => ?_)
      refine Go.Proofs.YtcjhligknhpadaaDoorW.PrintLast.norm_ ?_ (hcont (w1.heap.size, w1.heap.size + 1) _ (agf_1 w1))
      simp only [putAll, Act.put, List.setIfInBounds_toArray, List.set_cons_zero, List.set_cons_succ, World.alloc, Array.size_push]
      rfl
    · refine Go.Proofs.YtcjhligknhpadaaDoorW.PrintLast.value_ (w1 := (w1.drew).alloc (.cells #[.int .i64 0, .slice none 0 0] 55)) (v := .pointer (some ⟨(w1.drew).heap.size, 0, none⟩)) (by rfl) rfl (by go_simp) ?_
      refine hK.out _ _ ⟨cell_al _ hHeld.1, cell_al _ hHeld.2.1, cell_al _ hHeld.2.2.1, cell_al _ hHeld.2.2.2.1, cell_al _ hHeld.2.2.2.2.1, cell_al _ hHeld.2.2.2.2.2⟩ (fun hHeld => ?_)
      clear hK K
      refine Go.Proofs.YtcjhligknhpadaaDoorW.PrintLast.one_ (i := 8) (N := some 5) #[true, true, true, true, true, true, true, true, true, true, false, false, false, false] rfl rfl (by kernel_rfl) (by decide) (fun K hK => ?_)
      refine Go.Proofs.YtcjhligknhpadaaDoorW.PrintLast.value_ (w1 := (w1.drew.alloc (.cells #[.int .i64 0, .slice none 0 0] 55)).alloc (.cells #[.int .i64 0, .slice none 0 0] 55)) (v := .pointer (some ⟨(w1.drew.alloc (.cells #[.int .i64 0, .slice none 0 0] 55)).heap.size, 0, none⟩)) (by rfl) rfl (by go_simp) ?_
      refine hK.out _ _ ⟨cell_al _ hHeld.1, cell_al _ hHeld.2.1, cell_al _ hHeld.2.2.1, cell_al _ hHeld.2.2.2.1, cell_al _ hHeld.2.2.2.2.1, cell_al _ hHeld.2.2.2.2.2⟩ (fun hHeld => ?_)
      refine Go.Proofs.YtcjhligknhpadaaDoorW.PrintLast.norm_ ?_ (hcont (w1.heap.size + 1, w1.heap.size) _ (agf_2 w1))
      simp only [putAll, Act.put, List.setIfInBounds_toArray, List.set_cons_zero, List.set_cons_succ, World.alloc, Array.size_push]
      rfl
  · rintro ⟨b5, b6⟩ w2 hF
    obtain ⟨f1, f2, f3, f4, f5, f6, f7⟩ := hF
    have hHeld := HBX.out w2 f1
    refine Go.Proofs.YtcjhligknhpadaaDoorW.PrintLast.norm_ (a' := ?_) ?_ ?_
    rotate_left
    · show putAll _ _ = _
      simp only [putAll, List.foldl, Act.put, List.setIfInBounds_toArray, List.set_cons_zero, List.set_cons_succ]
      rfl
    refine Go.Proofs.YtcjhligknhpadaaDoorW.PrintLast.pure_ (i := 10) (N := some 3) (v := ?_) (a' := ?_) #[true, true, true, true, true, true, true, true, true, true, true, false, false, false] rfl rfl (by kernel_rfl) (fun _ _ _ h => h) (Or.inl ⟨by rfl, ?_⟩) ?_ ?_
    rotate_left
    · intro w'
      go_simp
      with_reducible rfl
    rotate_left
    · simp only [Act.put, List.setIfInBounds_toArray, List.set_cons_zero, List.set_cons_succ, Go.Proofs.YtcjhligknhpadaaDoorW.PrintLast.i64_w, Go.Proofs.YtcjhligknhpadaaDoorW.PrintLast.i32_w]
      rfl
    refine Go.Proofs.YtcjhligknhpadaaDoorW.PrintLast.pure_ (i := 11) (N := some 4) (v := ?_) (a' := ?_) #[true, true, true, true, true, true, true, true, true, true, true, true, false, false] rfl rfl (by kernel_rfl) (fun _ _ _ h => h) (Or.inl ⟨by rfl, ?_⟩) ?_ ?_
    rotate_left
    · intro w'
      go_simp
      with_reducible rfl
    rotate_left
    · simp only [Act.put, List.setIfInBounds_toArray, List.set_cons_zero, List.set_cons_succ, Go.Proofs.YtcjhligknhpadaaDoorW.PrintLast.i64_w, Go.Proofs.YtcjhligknhpadaaDoorW.PrintLast.i32_w]
      rfl
    have c50 := cell_of (i := 0) f2 rfl
    have c51 := cell_of (i := 1) f2 rfl
    have z50 : w2.frozen? ⟨b5, 0, none⟩ = false := free_of f2
    have z51 : w2.frozen? ⟨b5, 1, none⟩ = false := free_of f2
    refine Go.Proofs.YtcjhligknhpadaaDoorW.PrintLast.one_ (i := 12) (N := none) #[true, true, true, true, true, true, true, true, true, true, true, true, true, false] rfl rfl (by kernel_rfl) (by decide) (fun K hK => ?_)
    refine Go.Proofs.YtcjhligknhpadaaDoorW.PrintLast.skip_ (w1 := ((w2.setCell ⟨b5, 0, none⟩ (.int .i64 x1)).setCell ⟨b5, 1, none⟩ (.slice ka1 nk1 kc1))) (by rfl) rfl (by go_simp) ?_
    have hs5 : Below w1.heap.size w1 ((w2.setCell ⟨b5, 0, none⟩ (.int .i64 x1)).setCell ⟨b5, 1, none⟩ (.slice ka1 nk1 kc1)) := below_set (below_set f1 f5) f5
    refine hK.out _ _ (HBX.out _ hs5) (fun hHeld => ?_)
    clear hK K
    have f3' : ((w2.setCell ⟨b5, 0, none⟩ (.int .i64 x1)).setCell ⟨b5, 1, none⟩ (.slice ka1 nk1 kc1)).heap[b6]? = _ := (set_ne (Ne.symm f4)).trans ((set_ne (Ne.symm f4)).trans f3)
    have f4' := Ne.symm f4
    have c60w := cell_of (i := 0) f3 rfl
    have c61w := cell_of (i := 1) f3 rfl
    have z60w : w2.frozen? ⟨b6, 0, none⟩ = false := free_of f3
    have z61w : w2.frozen? ⟨b6, 1, none⟩ = false := free_of f3
    have c60 := cell_of (i := 0) f3' rfl
    have c61 := cell_of (i := 1) f3' rfl
    have z60 := free_of (i := 0) f3'
    have z61 := free_of (i := 1) f3'
    refine Go.Proofs.YtcjhligknhpadaaDoorW.PrintLast.last_ (i := 13) (N := none) #[true, true, true, true, true, true, true, true, true, true, true, true, true, true] rfl rfl (by kernel_rfl) (by decide) (fun K hK => ?_)
    refine Go.Proofs.YtcjhligknhpadaaDoorW.PrintLast.skip_ (w1 := ((((w2.setCell ⟨b5, 0, none⟩ (.int .i64 x1)).setCell ⟨b5, 1, none⟩ (.slice ka1 nk1 kc1)).setCell ⟨b6, 0, none⟩ (.int .i64 x2)).setCell ⟨b6, 1, none⟩ (.slice ka2 nk2 kc2))) (by rfl) rfl (by go_simp) ?_
    refine hK.out _ _ ?_
    clear hK K
    refine Go.Proofs.YtcjhligknhpadaaDoorW.PrintLast.done_ (by kernel_rfl) ?_
    have hs6 : Below w1.heap.size w1 ((((w2.setCell ⟨b5, 0, none⟩ (.int .i64 x1)).setCell ⟨b5, 1, none⟩ (.slice ka1 nk1 kc1)).setCell ⟨b6, 0, none⟩ (.int .i64 x2)).setCell ⟨b6, 1, none⟩ (.slice ka2 nk2 kc2)) := below_set (below_set hs5 f6) f6
    have hz6 : ((((w2.setCell ⟨b5, 0, none⟩ (.int .i64 x1)).setCell ⟨b5, 1, none⟩ (.slice ka1 nk1 kc1)).setCell ⟨b6, 0, none⟩ (.int .i64 x2)).setCell ⟨b6, 1, none⟩ (.slice ka2 nk2 kc2)).heap.size = w1.heap.size + 2 := by rw [set_size, set_size, set_size, set_size]; exact f7
    have h5 : ((((w2.setCell ⟨b5, 0, none⟩ (.int .i64 x1)).setCell ⟨b5, 1, none⟩ (.slice ka1 nk1 kc1)).setCell ⟨b6, 0, none⟩ (.int .i64 x2)).setCell ⟨b6, 1, none⟩ (.slice ka2 nk2 kc2)).heap[b5]? = some (.cells #[.int .i64 x1, (.slice ka1 nk1 kc1)] 55 (0, 0)) := (set_ne f4).trans ((set_ne f4).trans (by rw [set_at (by rw [set_at f2])]; rfl))
    have h6 : ((((w2.setCell ⟨b5, 0, none⟩ (.int .i64 x1)).setCell ⟨b5, 1, none⟩ (.slice ka1 nk1 kc1)).setCell ⟨b6, 0, none⟩ (.int .i64 x2)).setCell ⟨b6, 1, none⟩ (.slice ka2 nk2 kc2)).heap[b6]? = some (.cells #[.int .i64 x2, (.slice ka2 nk2 kc2)] 55 (0, 0)) := by rw [set_at (by rw [set_at f3'])]; rfl
    generalize ((((w2.setCell ⟨b5, 0, none⟩ (.int .i64 x1)).setCell ⟨b5, 1, none⟩ (.slice ka1 nk1 kc1)).setCell ⟨b6, 0, none⟩ (.int .i64 x2)).setCell ⟨b6, 1, none⟩ (.slice ka2 nk2 kc2)) = w3 at hs6 hz6 h5 h6 ⊢
    clear hHeld c50 c51 z50 z51 hs5 f3' f4' c60w c61w z60w z61w c60 c61 z60 z61 f1 f2 f3
    go_wp2_with fail
    have q1 := HV1.out
    subst q1
    have q2 := HV2.out
    subst q2
    have HW3 := Lib.hid (show ∀ W, Below w3.heap.size w3 W → Below w.heap.size w W from fun W hW => HB1.out.trans ((hs6.trans (hW.mono (by omega))).mono hle1))
    have HBC := Lib.hid (show ∀ W, Below w3.heap.size w3 W → W.cell? ⟨b5, 0, none⟩ = some (.int .i64 x1) ∧ W.cell? ⟨b5, 1, none⟩ = some (.slice ka1 nk1 kc1) ∧ W.cell? ⟨b6, 0, none⟩ = some (.int .i64 x2) ∧ W.cell? ⟨b6, 1, none⟩ = some (.slice ka2 nk2 kc2) from fun W hW => by
      have e5 := (hW.block b5 (lt_of_heap h5)).trans h5
      have e6 := (hW.block b6 (lt_of_heap h6)).trans h6
      exact ⟨cell_of e5 rfl, cell_of e5 rfl, cell_of e6 rfl, cell_of e6 rfl⟩)
    have hle3 : w.heap.size ≤ w3.heap.size := by omega
    clear hs6 hz6 h5 h6 g0 g1 g2 g3 g4 g5 HBX HBOX
    refine (new_dkof w3.heap.size 40 _ (Nat.le_refl _) (by decide) (by decide)).mono ?_
    rintro e w4 ⟨D, rfl, hi4, hb4⟩
    have HI4 := Lib.hid hi4
    have HB4 := Lib.hid hb4
    clear hi4 hb4
    go_wp2_with fail
    refine (log_format w3.heap.size D 0 40 (Dsk.new 40) w4 HI4.out HB4.out.size (by decide) (by decide) (by decide) (by decide) (by decide)).mono ?_
    rintro e wf ⟨rfl, hif, hcf, hsf⟩
    generalize w4.heap.size + 1 = P at hif ⊢
    generalize w4.heap.size = I at hif hsf ⊢
    have hd1l := (foD_fields (Dsk.new 40) 0 40).2.2.1
    have hd1s := (foD_fields (Dsk.new 40) 0 40).2.2.2
    have hd1N := (foD_fields (Dsk.new 40) 0 40).1
    rw [show (Dsk.new 40).log.length = 0 from rfl] at hd1l
    rw [show (Dsk.new 40).syncs.length = 0 from rfl] at hd1s
    generalize foD 0 40 (Dsk.new 40) = d1 at hif hd1l hd1s hd1N ⊢
    have HIF := Lib.hid hif
    have HBF := Lib.hid (HB4.out.trans hcf.below)
    clear hif hcf hsf
    go_wp2_with (go_at_call 10; refine (alive_any _ (HT.out.mono (HW3.out _ HBF.out) hp0)).mono ?_; rintro e wa ⟨rfl, hba⟩; have HBa := Lib.hid hba; clear hba)
    have hia := HIF.out.below HBa.out
    have hba := HBF.out.trans (HBa.out.mono HBF.out.size)
    go_loopw [11] (fun i wr => LAg w3.heap.size w3 P D I d1 fs i wr) (fun i _ => fs.length + 1 - (intOf i).toNat)
    case atStart => exact ⟨0, Nat.zero_le _, rfl, _, _, hia, rfl, rfl, hba⟩
    case round =>
      obtain ⟨k, hk, rfl, rv, l, hl, hx, hS, hb⟩ := hrel
      have HL := Lib.hid hl
      have HB := Lib.hid hb
      clear hl hb
      by_cases hkl : k < fs.length
      · have t1 : decide ((k : Int) < (fs.length : Int)) = true := decide_eq_true (by omega)
        obtain ⟨ad, u, rfl, hcu, hbu⟩ := R0.out k hkl
        have hbw := HW3.out _ HB.out
        have hcu' := below_cells hbw _ _ hcu
        have HAP := Lib.hid (log_append_in w3.heap.size w wr P D I rv l d1 u fs[k] HL.out (by omega) (by omega) HT.out hp0 hbu hbw)
        obtain ⟨sm1, sm2, sm3⟩ := appL_same l fs[k]
        clear hcu hbu hbw
        go_wp2_with (go_at_call 11; refine HAP.out.mono ?_; rintro e w5 ⟨rfl, rv', hl5, hk5, ho5⟩; have HL5 := Lib.hid hl5; have HB5 := Lib.hid (HB.out.trans (hk5.low HB.out.size HL.out.own)); clear hl5 hk5 ho5)
        go_roundw
        case rel => exact ⟨k + 1, hkl, by go_num, rv', _, HL5.out, sm1.trans hx, sm2.trans hS, HB5.out⟩
        case measure => simp [intOf]; omega
      · have hkf : k = fs.length := by omega
        have t1 : decide ((k : Int) < (fs.length : Int)) = false := decide_eq_false (by omega)
        have HFL := Lib.hid (log_flush w3.heap.size wr P D I _ l d1 HL.out HB.out.size (by rw [hS]; omega) (by omega))
        have hfd := flD_fields HL.out.2.2.1
        rw [hS] at hfd
        obtain ⟨l2, hl2⟩ : ∃ l2, l2 = flL l := ⟨_, rfl⟩
        have hx2 : l2.first = 0 := by rw [hl2]; exact hx
        have hS2 : l2.S = 40 := by rw [hl2]; exact hS
        rw [← hl2] at HFL
        generalize flD l d1 = d2 at hfd HFL
        have hd2l : d2.log.length ≤ 82 := by omega
        have hd2s : d2.syncs.length ≤ 4 := by omega
        have hd2N : d2.N = 40 := by rw [hfd.1, hd1N]; rfl
        clear hl2 hfd hd1l hd1s hd1N
        go_wp2_with (go_at_call 12; refine HFL.out.mono ?_; rintro e w5 ⟨rfl, hl5, hc5⟩; have HL5 := Lib.hid hl5; have HB5 := Lib.hid (HB.out.trans hc5.below); clear hl5 hc5)
        clear HFL HL HB
        go_loopw [12] (fun i wr => LAg w3.heap.size w3 P D I d2 ms i wr) (fun i _ => ms.length + 1 - (intOf i).toNat)
        case atStart => exact ⟨0, Nat.zero_le _, rfl, _, _, HL5.out, hx2, hS2, HB5.out⟩
        case round =>
          obtain ⟨k, hk, rfl, rv, l, hl, hx, hS, hb⟩ := hrel
          have HL := Lib.hid hl
          have HB := Lib.hid hb
          clear hl hb
          by_cases hkl : k < ms.length
          · have t1 : decide ((k : Int) < (ms.length : Int)) = true := decide_eq_true (by omega)
            obtain ⟨ad, u, rfl, hcu, hbu⟩ := R1.out k hkl
            have hbw := HW3.out _ HB.out
            have hcu' := below_cells hbw _ _ hcu
            have HAP := Lib.hid (log_append_in w3.heap.size w wr P D I rv l d2 u ms[k] HL.out (by omega) (by omega) HT.out hp0 hbu hbw)
            obtain ⟨sm1, sm2, sm3⟩ := appL_same l ms[k]
            clear hcu hbu hbw
            go_wp2_with (go_at_call 11; refine HAP.out.mono ?_; rintro e w5 ⟨rfl, rv', hl5, hk5, ho5⟩; have HL5 := Lib.hid hl5; have HB5 := Lib.hid (HB.out.trans (hk5.low HB.out.size HL.out.own)); clear hl5 hk5 ho5)
            go_roundw
            case rel => exact ⟨k + 1, hkl, by go_num, rv', _, HL5.out, sm1.trans hx, sm2.trans hS, HB5.out⟩
            case measure => simp [intOf]; omega
          · have hkf : k = ms.length := by omega
            have t1 : decide ((k : Int) < (ms.length : Int)) = false := decide_eq_false (by omega)
            have HFL2 := Lib.hid (log_flush w3.heap.size wr P D I _ l d2 HL.out HB.out.size (by rw [hS]; omega) (by omega))
            have hfd := flD_fields HL.out.2.2.1
            rw [hS] at hfd
            generalize flD l d2 = d3 at hfd HFL2
            generalize flL l = l3 at HFL2
            have hd3l : d3.log.length ≤ 123 := by omega
            have hd3s : d3.syncs.length ≤ 6 := by omega
            have hd3N : d3.N = 40 := by rw [hfd.1, hd2N]
            clear hfd hd2l hd2s hd2N
            go_wp2_with (go_at_call 12; refine HFL2.out.mono ?_; rintro e w7 ⟨rfl, hl7, hc7⟩; have HL7 := Lib.hid hl7.dk; have HB7 := Lib.hid (HB.out.trans hc7.below); clear hl7 hc7)
            clear HFL2 HL HB HL5 HB5
            have HB7D := Lib.hid (HB7.out.trans ((Below.refl _ w7).drew.mono HB7.out.size))
            obtain ⟨p0, p1, p2, p3⟩ := HBC.out _ HB7.out
            have e16 : IntKind.i64.wrap ((d3.log.length : Int) + 1) = (d3.log.length : Int) + 1 := IntWalk.i64_in _ (by omega)
            refine Go.Proofs.YtcjhligknhpadaaDoorW.PrintLast.start_ (n := 11) (S := fun v => v.cell? ⟨b5, 0, none⟩ = some (.int .i64 x1) ∧ v.cell? ⟨b5, 1, none⟩ = some (.slice ka1 nk1 kc1)) (ds := [10]) #[false, false, false, false, false, false, false, false, false, false, false] (by kernel_rfl) rfl rfl ⟨p0, p1⟩ (fun hHeld => ?_)
            refine Go.Proofs.YtcjhligknhpadaaDoorW.PrintLast.pure_ (i := 0) (N := some 87) (v := ?_) (a' := ?_) #[true, false, false, false, false, false, false, false, false, false, false] rfl rfl (by kernel_rfl) (fun _ _ _ h => h) (Or.inl ⟨by rfl, ?_⟩) ?_ ?_
            rotate_left
            · intro w'
              go_simp
              with_reducible rfl
            rotate_left
            · simp only [Act.put, List.setIfInBounds_toArray, List.set_cons_zero, List.set_cons_succ, Go.Proofs.YtcjhligknhpadaaDoorW.PrintLast.i64_w, Go.Proofs.YtcjhligknhpadaaDoorW.PrintLast.i32_w]
              rfl
            refine Go.Proofs.YtcjhligknhpadaaDoorW.PrintLast.pure_ (i := 1) (N := some 88) (v := ?_) (a' := ?_) #[true, true, false, false, false, false, false, false, false, false, false] rfl rfl (by kernel_rfl) (fun _ _ _ h => h) (Or.inl ⟨by rfl, ?_⟩) ?_ ?_
            rotate_left
            · intro w'
              go_simp
              with_reducible rfl
            rotate_left
            · simp only [Act.put, List.setIfInBounds_toArray, List.set_cons_zero, List.set_cons_succ, Go.Proofs.YtcjhligknhpadaaDoorW.PrintLast.i64_w, Go.Proofs.YtcjhligknhpadaaDoorW.PrintLast.i32_w]
              rfl
            refine Go.Proofs.YtcjhligknhpadaaDoorW.PrintLast.take_ (i := 2) (N := some 89) (v := ?_) (a' := ?_) #[true, true, true, false, false, false, false, false, false, false, false] rfl rfl (by kernel_rfl) (fun _ _ _ h => h) (Or.inl ⟨by rfl, ?_⟩) hHeld ?_ ?_
            rotate_left
            · rintro w' ⟨s0, s1⟩
              go_simp
              with_reducible rfl
            rotate_left
            · simp only [Act.put, List.setIfInBounds_toArray, List.set_cons_zero, List.set_cons_succ, Go.Proofs.YtcjhligknhpadaaDoorW.PrintLast.i64_w, Go.Proofs.YtcjhligknhpadaaDoorW.PrintLast.i32_w]
              rfl
            refine Go.Proofs.YtcjhligknhpadaaDoorW.PrintLast.pure_ (i := 3) (N := some 90) (v := ?_) (a' := ?_) #[true, true, true, true, false, false, false, false, false, false, false] rfl rfl (by kernel_rfl) (fun _ _ _ h => h) (Or.inl ⟨by rfl, ?_⟩) ?_ ?_
            rotate_left
            · intro w'
              go_simp
              with_reducible rfl
            rotate_left
            · simp only [Act.put, List.setIfInBounds_toArray, List.set_cons_zero, List.set_cons_succ, Go.Proofs.YtcjhligknhpadaaDoorW.PrintLast.i64_w, Go.Proofs.YtcjhligknhpadaaDoorW.PrintLast.i32_w]
              rfl
            refine Go.Proofs.YtcjhligknhpadaaDoorW.PrintLast.pure_ (i := 7) (N := some 94) (v := ?_) (a' := ?_) #[true, true, true, true, false, false, false, true, false, false, false] rfl rfl (by kernel_rfl) (fun _ _ _ h => h) (Or.inl ⟨by rfl, ?_⟩) ?_ ?_
            rotate_left
            · intro w'
              go_simp
              with_reducible rfl
            rotate_left
            · simp only [Act.put, List.setIfInBounds_toArray, List.set_cons_zero, List.set_cons_succ, Go.Proofs.YtcjhligknhpadaaDoorW.PrintLast.i64_w, Go.Proofs.YtcjhligknhpadaaDoorW.PrintLast.i32_w]
              rfl
            refine Go.Proofs.YtcjhligknhpadaaDoorW.PrintLast.take_ (i := 8) (N := some 95) (v := ?_) (a' := ?_) #[true, true, true, true, false, false, false, true, true, false, false] rfl rfl (by kernel_rfl) (fun _ _ _ h => h) (Or.inl ⟨by rfl, ?_⟩) hHeld ?_ ?_
            rotate_left
            · rintro w' ⟨s0, s1⟩
              go_simp
              with_reducible rfl
            rotate_left
            · simp only [Act.put, List.setIfInBounds_toArray, List.set_cons_zero, List.set_cons_succ, Go.Proofs.YtcjhligknhpadaaDoorW.PrintLast.i64_w, Go.Proofs.YtcjhligknhpadaaDoorW.PrintLast.i32_w]
              rfl
            refine Go.Proofs.YtcjhligknhpadaaDoorW.PrintLast.one_ (i := 4) (N := some 91) #[true, true, true, true, true, false, false, true, true, false, false] rfl rfl (by kernel_rfl) (by decide) (fun K hK => ?_)
            refine Go.Proofs.YtcjhligknhpadaaDoorW.PrintLast.goes_ Tryd.func27 (by kernel_rfl) rfl #[.pointer (some ⟨D, 0, none⟩)] (by rfl) rfl rfl (by (try simp only [List.map_toArray, List.map_cons, List.map_nil]); first | done | rfl) ?_
            refine (dk_writes w3.heap.size _ D d3 (HL7.out.below (Below.refl _ _).drew)).mono ?_
            rintro e wq ⟨rfl, rfl⟩
            refine ⟨_, rfl, ?_⟩
            refine hK.out _ _ hHeld (fun hHeld => ?_)
            clear hK K
            refine Go.Proofs.YtcjhligknhpadaaDoorW.PrintLast.norm_ (a' := ?_) ?_ ?_
            rotate_left
            · show Act.put _ (some 91) _ = _
              simp only [Act.put, List.setIfInBounds_toArray, List.set_cons_zero, List.set_cons_succ, Go.Proofs.YtcjhligknhpadaaDoorW.PrintLast.i64_w, Go.Proofs.YtcjhligknhpadaaDoorW.PrintLast.i32_w]
              rfl
            refine Go.Proofs.YtcjhligknhpadaaDoorW.PrintLast.pure_ (i := 5) (N := some 92) (v := ?_) (a' := ?_) #[true, true, true, true, true, true, false, true, true, false, false] rfl rfl (by kernel_rfl) (fun _ _ _ h => h) (Or.inl ⟨by rfl, ?_⟩) ?_ ?_
            rotate_left
            · intro w'
              go_simp
              with_reducible rfl
            rotate_left
            · simp only [Act.put, List.setIfInBounds_toArray, List.set_cons_zero, List.set_cons_succ, Go.Proofs.YtcjhligknhpadaaDoorW.PrintLast.i64_w, Go.Proofs.YtcjhligknhpadaaDoorW.PrintLast.i32_w]
              rfl
            refine Go.Proofs.YtcjhligknhpadaaDoorW.PrintLast.one_ (i := 6) (N := some 93) #[true, true, true, true, true, true, true, true, true, false, false] rfl rfl (by kernel_rfl) (by decide) (fun K hK => ?_)
            refine Go.Proofs.YtcjhligknhpadaaDoorW.PrintLast.goes_ Tryd.func17 (by kernel_rfl) rfl #[.int .i64 x1, .int .i64 ((d3.log.length : Int) + 1)] (by rfl) rfl rfl (by (try simp only [List.map_toArray, List.map_cons, List.map_nil]); first | done | rfl) ?_
            refine (pick_any x1 _ _ HX1.out.1 HX1.out.2 (by omega) (by omega)).mono ?_
            rintro e wq ⟨⟨r, hr, rfl⟩, rfl⟩
            refine ⟨_, rfl, ?_⟩
            refine hK.out _ _ hHeld (fun hHeld => ?_)
            clear hK K
            refine Go.Proofs.YtcjhligknhpadaaDoorW.PrintLast.norm_ (a' := ?_) ?_ ?_
            rotate_left
            · show Act.put _ (some 93) _ = _
              simp only [Act.put, List.setIfInBounds_toArray, List.set_cons_zero, List.set_cons_succ, Go.Proofs.YtcjhligknhpadaaDoorW.PrintLast.i64_w, Go.Proofs.YtcjhligknhpadaaDoorW.PrintLast.i32_w]
              rfl
            refine Go.Proofs.YtcjhligknhpadaaDoorW.PrintLast.one_ (i := 9) (N := some 96) #[true, true, true, true, true, true, true, true, true, true, false] rfl rfl (by kernel_rfl) (by decide) (fun K hK => ?_)
            refine Go.Proofs.YtcjhligknhpadaaDoorW.PrintLast.goes_ Tryd.func26 (by kernel_rfl) rfl #[.pointer (some ⟨D, 0, none⟩), .int .i64 r, (.slice ka1 nk1 kc1)] (by rfl) rfl rfl (by (try simp only [List.map_toArray, List.map_cons, List.map_nil]); first | done | rfl) ?_
            refine (dk_cutat w3.heap.size w7.heap.size w7.drew D d3 r (.slice ka1 nk1 kc1) kp1 (HL7.out.below (Below.refl _ _).drew) (by omega) (by omega) (Nat.le_refl _) (HK1.out.mono (below_cells (HW3.out _ HB7D.out))) (by omega)).mono ?_
            rintro e w8 ⟨C, rfl, hC, hb8⟩
            have HC := Lib.hid hC
            have HB8 := Lib.hid ((Below.refl _ w7).drew.trans hb8)
            refine ⟨_, rfl, ?_⟩
            refine hK.out _ _ ⟨cell_up hHeld.1 hb8, cell_up hHeld.2 hb8⟩ (fun hHeld => ?_)
            clear hK K
            refine Go.Proofs.YtcjhligknhpadaaDoorW.PrintLast.norm_ (a' := ?_) ?_ ?_
            rotate_left
            · show Act.put _ (some 96) _ = _
              simp only [Act.put, List.setIfInBounds_toArray, List.set_cons_zero, List.set_cons_succ, Go.Proofs.YtcjhligknhpadaaDoorW.PrintLast.i64_w, Go.Proofs.YtcjhligknhpadaaDoorW.PrintLast.i32_w]
              rfl
            refine Go.Proofs.YtcjhligknhpadaaDoorW.PrintLast.pure_ (i := 10) (N := some 13) (v := ?_) (a' := ?_) #[true, true, true, true, true, true, true, true, true, true, true] rfl rfl (by kernel_rfl) (fun _ _ _ h => h) (Or.inl ⟨by rfl, ?_⟩) ?_ ?_
            rotate_left
            · intro w'
              go_simp
              with_reducible rfl
            rotate_left
            · simp only [Act.put, List.setIfInBounds_toArray, List.set_cons_zero, List.set_cons_succ, Go.Proofs.YtcjhligknhpadaaDoorW.PrintLast.i64_w, Go.Proofs.YtcjhligknhpadaaDoorW.PrintLast.i32_w]
              rfl
            refine Go.Proofs.YtcjhligknhpadaaDoorW.PrintLast.done_ (by kernel_rfl) ?_
            have hCo := HC.out
            have hdtN : (leftD d3 (safeAt d3.syncs r d3.syncs.length) r kp1).N = 40 := hd3N
            have hdtl : (leftD d3 (safeAt d3.syncs r d3.syncs.length) r kp1).log = [] := rfl
            have hdts : (leftD d3 (safeAt d3.syncs r d3.syncs.length) r kp1).syncs = [] := rfl
            generalize leftD d3 (safeAt d3.syncs r d3.syncs.length) r kp1 = dt at hCo hdtN hdtl hdts
            have HCo := Lib.hid hCo
            have hs7 := HB7.out.size
            clear HC hCo p0 p1 p2 p3
            go_wp2_with fail
            refine (log_open w7.heap.size C 0 40 dt w8 HCo.out (by omega) HB8.out.size (HT.out.mono (HW3.out _ (HB7.out.trans (HB8.out.mono hs7))) hp0) (by decide) (by decide) (by rw [hdtN]; decide) (by rw [hdtl]; decide) (by rw [hdts]; decide)).mono ?_
            rintro e w9 ⟨rfl, rvm, hlm, hcm, _⟩
            have HB9 := Lib.hid (HB8.out.trans hcm.below)
            generalize w8.heap.size + 1 = P2 at hlm ⊢
            generalize w8.heap.size = I2 at hlm
            have hao := fun n keep => again_open HCo.out.2.1 hdtl hdts 0 40 n keep
            have haf := fun n keep => again_format hlm.2.2.1 (opL_flushed 0 40 dt) (by rw [opL_S]; decide) n keep
            rw [opL_S, opL_first] at haf
            have hdm := opD_fields HCo.out.2.1 0 40
            rw [hdtN, hdtl, hdts] at hdm
            generalize opL 0 40 dt = lm at hlm hao haf
            generalize opD 0 40 dt = dm at hlm hao haf hdm
            have hdmN : dm.N = 40 := hdm.1
            have hdml : dm.log.length ≤ 41 := by have := hdm.2.2.1; simpa using this
            have hdms : dm.syncs.length ≤ 2 := by have := hdm.2.2.2; simpa using this
            have HAO := Lib.hid hao
            have HAF := Lib.hid haf
            have HLM := Lib.hid hlm
            clear hao haf hlm hcm hdm hdtl hdts hdtN
            have hrl := HLM.out.2.2.1.recs_le
            have hns := HLM.out.nums
            have HROK := Lib.hid (show lm.recs.length ≤ 1000000 ∧ ∀ r ∈ lm.recs, r.length ≤ 1000000 from ⟨by omega, fun r hr => by have := HLM.out.2.2.1.ok r hr; omega⟩)
            clear hrl hns
            go_wp2_with (go_at_call 13; refine (log_records w7.heap.size w9 P2 C I2 rvm lm dm HLM.out).mono ?_; rintro e w10 ⟨ov, rfl, hov, hb10⟩; have HOV := Lib.hid hov; have HB10 := Lib.hid (HB9.out.trans (hb10.mono HB9.out.size)); have HDM := Lib.hid (HLM.out.dk.below hb10); clear hov hb10)
            have hs10 := HB10.out.size
            have HB310 := Lib.hid (HB7.out.trans (HB10.out.mono hs7))
            obtain ⟨p0, p1, p2, p3⟩ := HBC.out _ HB310.out
            have e21 : IntKind.i64.wrap ((dm.log.length : Int) + 1) = (dm.log.length : Int) + 1 := IntWalk.i64_in _ (by omega)
            refine Go.Proofs.YtcjhligknhpadaaDoorW.PrintLast.start_ (n := 16) (S := fun v => v.cell? ⟨b6, 0, none⟩ = some (.int .i64 x2) ∧ v.cell? ⟨b6, 1, none⟩ = some (.slice ka2 nk2 kc2)) (ds := [15]) #[false, false, false, false, false, false, false, false, false, false, false, false, false, false, false, false] (by kernel_rfl) rfl rfl ⟨p2, p3⟩ (fun hHeld => ?_)
            refine Go.Proofs.YtcjhligknhpadaaDoorW.PrintLast.pure_ (i := 0) (N := some 111) (v := ?_) (a' := ?_) #[true, false, false, false, false, false, false, false, false, false, false, false, false, false, false, false] rfl rfl (by kernel_rfl) (fun _ _ _ h => h) (Or.inl ⟨by rfl, ?_⟩) ?_ ?_
            rotate_left
            · intro w'
              go_simp
              with_reducible rfl
            rotate_left
            · simp only [Act.put, List.setIfInBounds_toArray, List.set_cons_zero, List.set_cons_succ, Go.Proofs.YtcjhligknhpadaaDoorW.PrintLast.i64_w, Go.Proofs.YtcjhligknhpadaaDoorW.PrintLast.i32_w]
              rfl
            refine Go.Proofs.YtcjhligknhpadaaDoorW.PrintLast.pure_ (i := 1) (N := some 112) (v := ?_) (a' := ?_) #[true, true, false, false, false, false, false, false, false, false, false, false, false, false, false, false] rfl rfl (by kernel_rfl) (fun _ _ _ h => h) (Or.inl ⟨by rfl, ?_⟩) ?_ ?_
            rotate_left
            · intro w'
              go_simp
              with_reducible rfl
            rotate_left
            · simp only [Act.put, List.setIfInBounds_toArray, List.set_cons_zero, List.set_cons_succ, Go.Proofs.YtcjhligknhpadaaDoorW.PrintLast.i64_w, Go.Proofs.YtcjhligknhpadaaDoorW.PrintLast.i32_w]
              rfl
            refine Go.Proofs.YtcjhligknhpadaaDoorW.PrintLast.take_ (i := 2) (N := some 113) (v := ?_) (a' := ?_) #[true, true, true, false, false, false, false, false, false, false, false, false, false, false, false, false] rfl rfl (by kernel_rfl) (fun _ _ _ h => h) (Or.inl ⟨by rfl, ?_⟩) hHeld ?_ ?_
            rotate_left
            · rintro w' ⟨s0, s1⟩
              go_simp
              with_reducible rfl
            rotate_left
            · simp only [Act.put, List.setIfInBounds_toArray, List.set_cons_zero, List.set_cons_succ, Go.Proofs.YtcjhligknhpadaaDoorW.PrintLast.i64_w, Go.Proofs.YtcjhligknhpadaaDoorW.PrintLast.i32_w]
              rfl
            refine Go.Proofs.YtcjhligknhpadaaDoorW.PrintLast.pure_ (i := 3) (N := some 114) (v := ?_) (a' := ?_) #[true, true, true, true, false, false, false, false, false, false, false, false, false, false, false, false] rfl rfl (by kernel_rfl) (fun _ _ _ h => h) (Or.inl ⟨by rfl, ?_⟩) ?_ ?_
            rotate_left
            · intro w'
              go_simp
              with_reducible rfl
            rotate_left
            · simp only [Act.put, List.setIfInBounds_toArray, List.set_cons_zero, List.set_cons_succ, Go.Proofs.YtcjhligknhpadaaDoorW.PrintLast.i64_w, Go.Proofs.YtcjhligknhpadaaDoorW.PrintLast.i32_w]
              rfl
            refine Go.Proofs.YtcjhligknhpadaaDoorW.PrintLast.pure_ (i := 7) (N := some 118) (v := ?_) (a' := ?_) #[true, true, true, true, false, false, false, true, false, false, false, false, false, false, false, false] rfl rfl (by kernel_rfl) (fun _ _ _ h => h) (Or.inl ⟨by rfl, ?_⟩) ?_ ?_
            rotate_left
            · intro w'
              go_simp
              with_reducible rfl
            rotate_left
            · simp only [Act.put, List.setIfInBounds_toArray, List.set_cons_zero, List.set_cons_succ, Go.Proofs.YtcjhligknhpadaaDoorW.PrintLast.i64_w, Go.Proofs.YtcjhligknhpadaaDoorW.PrintLast.i32_w]
              rfl
            refine Go.Proofs.YtcjhligknhpadaaDoorW.PrintLast.take_ (i := 8) (N := some 119) (v := ?_) (a' := ?_) #[true, true, true, true, false, false, false, true, true, false, false, false, false, false, false, false] rfl rfl (by kernel_rfl) (fun _ _ _ h => h) (Or.inl ⟨by rfl, ?_⟩) hHeld ?_ ?_
            rotate_left
            · rintro w' ⟨s0, s1⟩
              go_simp
              with_reducible rfl
            rotate_left
            · simp only [Act.put, List.setIfInBounds_toArray, List.set_cons_zero, List.set_cons_succ, Go.Proofs.YtcjhligknhpadaaDoorW.PrintLast.i64_w, Go.Proofs.YtcjhligknhpadaaDoorW.PrintLast.i32_w]
              rfl
            refine Go.Proofs.YtcjhligknhpadaaDoorW.PrintLast.one_ (i := 4) (N := some 115) #[true, true, true, true, true, false, false, true, true, false, false, false, false, false, false, false] rfl rfl (by kernel_rfl) (by decide) (fun K hK => ?_)
            refine Go.Proofs.YtcjhligknhpadaaDoorW.PrintLast.goes_ Tryd.func27 (by kernel_rfl) rfl #[.pointer (some ⟨C, 0, none⟩)] (by rfl) rfl rfl (by (try simp only [List.map_toArray, List.map_cons, List.map_nil]); first | done | rfl) ?_
            refine (dk_writes w7.heap.size _ C dm (HDM.out.below (Below.refl _ _).drew)).mono ?_
            rintro e wq ⟨rfl, rfl⟩
            refine ⟨_, rfl, ?_⟩
            refine hK.out _ _ hHeld (fun hHeld => ?_)
            clear hK K
            refine Go.Proofs.YtcjhligknhpadaaDoorW.PrintLast.norm_ (a' := ?_) ?_ ?_
            rotate_left
            · show Act.put _ (some 115) _ = _
              simp only [Act.put, List.setIfInBounds_toArray, List.set_cons_zero, List.set_cons_succ, Go.Proofs.YtcjhligknhpadaaDoorW.PrintLast.i64_w, Go.Proofs.YtcjhligknhpadaaDoorW.PrintLast.i32_w]
              rfl
            refine Go.Proofs.YtcjhligknhpadaaDoorW.PrintLast.pure_ (i := 5) (N := some 116) (v := ?_) (a' := ?_) #[true, true, true, true, true, true, false, true, true, false, false, false, false, false, false, false] rfl rfl (by kernel_rfl) (fun _ _ _ h => h) (Or.inl ⟨by rfl, ?_⟩) ?_ ?_
            rotate_left
            · intro w'
              go_simp
              with_reducible rfl
            rotate_left
            · simp only [Act.put, List.setIfInBounds_toArray, List.set_cons_zero, List.set_cons_succ, Go.Proofs.YtcjhligknhpadaaDoorW.PrintLast.i64_w, Go.Proofs.YtcjhligknhpadaaDoorW.PrintLast.i32_w]
              rfl
            refine Go.Proofs.YtcjhligknhpadaaDoorW.PrintLast.one_ (i := 6) (N := some 117) #[true, true, true, true, true, true, true, true, true, false, false, false, false, false, false, false] rfl rfl (by kernel_rfl) (by decide) (fun K hK => ?_)
            refine Go.Proofs.YtcjhligknhpadaaDoorW.PrintLast.goes_ Tryd.func17 (by kernel_rfl) rfl #[.int .i64 x2, .int .i64 ((dm.log.length : Int) + 1)] (by rfl) rfl rfl (by (try simp only [List.map_toArray, List.map_cons, List.map_nil]); first | done | rfl) ?_
            refine (pick_any x2 _ _ HX2.out.1 HX2.out.2 (by omega) (by omega)).mono ?_
            rintro e wq ⟨⟨r2, hr2, rfl⟩, rfl⟩
            refine ⟨_, rfl, ?_⟩
            refine hK.out _ _ hHeld (fun hHeld => ?_)
            clear hK K
            refine Go.Proofs.YtcjhligknhpadaaDoorW.PrintLast.norm_ (a' := ?_) ?_ ?_
            rotate_left
            · show Act.put _ (some 117) _ = _
              simp only [Act.put, List.setIfInBounds_toArray, List.set_cons_zero, List.set_cons_succ, Go.Proofs.YtcjhligknhpadaaDoorW.PrintLast.i64_w, Go.Proofs.YtcjhligknhpadaaDoorW.PrintLast.i32_w]
              rfl
            refine Go.Proofs.YtcjhligknhpadaaDoorW.PrintLast.one_ (i := 9) (N := some 120) #[true, true, true, true, true, true, true, true, true, true, false, false, false, false, false, false] rfl rfl (by kernel_rfl) (by decide) (fun K hK => ?_)
            refine Go.Proofs.YtcjhligknhpadaaDoorW.PrintLast.goes_ Tryd.func26 (by kernel_rfl) rfl #[.pointer (some ⟨C, 0, none⟩), .int .i64 r2, (.slice ka2 nk2 kc2)] (by rfl) rfl rfl (by (try simp only [List.map_toArray, List.map_cons, List.map_nil]); first | done | rfl) ?_
            refine (dk_cutat w7.heap.size w10.heap.size w10.drew C dm r2 (.slice ka2 nk2 kc2) kp2 (HDM.out.below (Below.refl _ _).drew) (by omega) (by omega) (Nat.le_refl _) (HK2.out.mono (below_cells (HW3.out _ (HB310.out.trans ((Below.refl _ w10).drew.mono HB310.out.size))))) (by omega)).mono ?_
            rintro e w11 ⟨C2, rfl, hC2, hb11⟩
            have hrn := HAO.out r2 kp2 (by omega)
            have hnN : (leftD dm (safeAt dm.syncs r2 dm.syncs.length) r2 kp2).N = 40 := hdmN
            have hnl : (leftD dm (safeAt dm.syncs r2 dm.syncs.length) r2 kp2).log = [] := rfl
            have hns : (leftD dm (safeAt dm.syncs r2 dm.syncs.length) r2 kp2).syncs = [] := rfl
            generalize leftD dm (safeAt dm.syncs r2 dm.syncs.length) r2 kp2 = dn at hC2 hrn hnN hnl hns
            have HC2 := Lib.hid hC2
            have HB11 := Lib.hid ((Below.refl _ w10).drew.trans hb11)
            clear hC2
            refine ⟨_, rfl, ?_⟩
            refine hK.out _ _ ⟨cell_up hHeld.1 hb11, cell_up hHeld.2 hb11⟩ (fun hHeld => ?_)
            clear hK K
            refine Go.Proofs.YtcjhligknhpadaaDoorW.PrintLast.norm_ (a' := ?_) ?_ ?_
            rotate_left
            · show Act.put _ (some 120) _ = _
              simp only [Act.put, List.setIfInBounds_toArray, List.set_cons_zero, List.set_cons_succ, Go.Proofs.YtcjhligknhpadaaDoorW.PrintLast.i64_w, Go.Proofs.YtcjhligknhpadaaDoorW.PrintLast.i32_w]
              rfl
            refine Go.Proofs.YtcjhligknhpadaaDoorW.PrintLast.one_ (i := 10) (N := some 121) #[true, true, true, true, true, true, true, true, true, true, true, false, false, false, false, false] rfl rfl (by kernel_rfl) (by decide) (fun K hK => ?_)
            refine Go.Proofs.YtcjhligknhpadaaDoorW.PrintLast.goes_ Tryd.func9 (by kernel_rfl) rfl #[.pointer (some ⟨C2, 0, none⟩), .int .i64 0, .int .i64 40] (by rfl) rfl rfl (by (try simp only [List.map_toArray, List.map_cons, List.map_nil]); first | done | rfl) ?_
            refine (log_open w10.heap.size C2 0 40 dn w11 HC2.out (by omega) HB11.out.size (HT.out.mono (HW3.out _ (HB310.out.trans (HB11.out.mono HB310.out.size))) hp0) (by decide) (by decide) (by rw [hnN]; decide) (by rw [hnl]; decide) (by rw [hns]; decide)).mono ?_
            rintro e w12 ⟨rfl, rvn, hln, hcn, _⟩
            have hb1012 := HB11.out.trans hcn.below
            have hbc12 := HBC.out _ (HB310.out.trans (hb1012.mono HB310.out.size))
            generalize w11.heap.size + 1 = P3 at hln ⊢
            generalize w11.heap.size = I3 at hln
            generalize opL 0 40 dn = ln at hln hrn
            generalize opD 0 40 dn = dnn at hln
            clear hcn
            refine ⟨_, rfl, ?_⟩
            refine hK.out _ _ ⟨hbc12.2.2.1, hbc12.2.2.2⟩ (fun hHeld => ?_)
            clear hK K
            refine Go.Proofs.YtcjhligknhpadaaDoorW.PrintLast.norm_ (a' := ?_) ?_ ?_
            rotate_left
            · show Act.put _ (some 121) _ = _
              simp only [Act.put, List.setIfInBounds_toArray, List.set_cons_zero, List.set_cons_succ, Go.Proofs.YtcjhligknhpadaaDoorW.PrintLast.i64_w, Go.Proofs.YtcjhligknhpadaaDoorW.PrintLast.i32_w]
              rfl
            refine Go.Proofs.YtcjhligknhpadaaDoorW.PrintLast.pure_ (i := 11) (N := some 110) (v := ?_) (a' := ?_) #[true, true, true, true, true, true, true, true, true, true, true, true, false, false, false, false] rfl rfl (by kernel_rfl) (fun _ _ _ h => h) (Or.inl ⟨by rfl, ?_⟩) ?_ ?_
            rotate_left
            · intro w'
              go_simp
              with_reducible rfl
            rotate_left
            · simp only [Act.put, List.setIfInBounds_toArray, List.set_cons_zero, List.set_cons_succ, Go.Proofs.YtcjhligknhpadaaDoorW.PrintLast.i64_w, Go.Proofs.YtcjhligknhpadaaDoorW.PrintLast.i32_w]
              rfl
            refine Go.Proofs.YtcjhligknhpadaaDoorW.PrintLast.pure_ (i := 12) (N := some 122) (v := ?_) (a' := ?_) #[true, true, true, true, true, true, true, true, true, true, true, true, true, false, false, false] rfl rfl (by kernel_rfl) (fun _ _ _ h => h) (Or.inl ⟨by rfl, ?_⟩) ?_ ?_
            rotate_left
            · intro w'
              go_simp
              with_reducible rfl
            rotate_left
            · simp only [Act.put, List.setIfInBounds_toArray, List.set_cons_zero, List.set_cons_succ, Go.Proofs.YtcjhligknhpadaaDoorW.PrintLast.i64_w, Go.Proofs.YtcjhligknhpadaaDoorW.PrintLast.i32_w]
              rfl
            refine Go.Proofs.YtcjhligknhpadaaDoorW.PrintLast.pure_ (i := 13) (N := some 123) (v := ?_) (a' := ?_) #[true, true, true, true, true, true, true, true, true, true, true, true, true, true, false, false] rfl rfl (by kernel_rfl) (fun _ _ _ h => h) (Or.inl ⟨by rfl, ?_⟩) ?_ ?_
            rotate_left
            · intro w'
              go_simp
              with_reducible rfl
            rotate_left
            · simp only [Act.put, List.setIfInBounds_toArray, List.set_cons_zero, List.set_cons_succ, Go.Proofs.YtcjhligknhpadaaDoorW.PrintLast.i64_w, Go.Proofs.YtcjhligknhpadaaDoorW.PrintLast.i32_w]
              rfl
            refine Go.Proofs.YtcjhligknhpadaaDoorW.PrintLast.pure_ (i := 14) (N := some 17) (v := ?_) (a' := ?_) #[true, true, true, true, true, true, true, true, true, true, true, true, true, true, true, false] rfl rfl (by kernel_rfl) (fun _ _ _ h => h) (Or.inl ⟨by rfl, ?_⟩) ?_ ?_
            rotate_left
            · intro w'
              go_simp
              with_reducible rfl
            rotate_left
            · simp only [Act.put, List.setIfInBounds_toArray, List.set_cons_zero, List.set_cons_succ, Go.Proofs.YtcjhligknhpadaaDoorW.PrintLast.i64_w, Go.Proofs.YtcjhligknhpadaaDoorW.PrintLast.i32_w]
              rfl
            refine Go.Proofs.YtcjhligknhpadaaDoorW.PrintLast.pure_ (i := 15) (N := some 18) (v := ?_) (a' := ?_) #[true, true, true, true, true, true, true, true, true, true, true, true, true, true, true, true] rfl rfl (by kernel_rfl) (fun _ _ _ h => h) (Or.inl ⟨by rfl, ?_⟩) ?_ ?_
            rotate_left
            · intro w'
              go_simp
              with_reducible rfl
            rotate_left
            · simp only [Act.put, List.setIfInBounds_toArray, List.set_cons_zero, List.set_cons_succ, Go.Proofs.YtcjhligknhpadaaDoorW.PrintLast.i64_w, Go.Proofs.YtcjhligknhpadaaDoorW.PrintLast.i32_w]
              rfl
            refine Go.Proofs.YtcjhligknhpadaaDoorW.PrintLast.done_ (by kernel_rfl) ?_
            have HLN := Lib.hid hln
            have HB12 := Lib.hid hb1012
            have hs12 := hb1012.size
            clear hln hb1012 p0 p1 p2 p3
            go_wp2_with (first | (go_at_call 13; refine (log_records w10.heap.size w12 P3 C2 I3 rvn ln dnn HLN.out).mono ?_; rintro e w13 ⟨ov3, rfl, hov3, hb13⟩; rw [hrn] at hov3; have HSAME := Lib.hid (show Calls Tryd.prog 23 #[ov3, ov] w13 fun e w' => e = .returned (.bool true) ∧ ∃ n, w' = w13.drewN n from by have q := same_rows w13 ov3 ov lm.recs lm.recs (RowsAt.in_ (av := av0.with I3) hov3 HROK.out.1 HROK.out.2) ((RowsAt.in_ (av := av0.with I2) HOV.out HROK.out.1 HROK.out.2).mono (below_cells (HB12.out.trans (hb13.mono hs12)))); rw [show decide (lm.recs = lm.recs) = true by simp] at q; exact q); have HB13 := Lib.hid (HB12.out.trans (hb13.mono hs12)); clear hov3 hb13) | (go_at_call 23; refine HSAME.out.mono ?_; rintro e wq ⟨rfl, n14, rfl⟩) | (go_at_call 27; refine (dk_writes w7.heap.size _ C dm (HDM.out.below (HB13.out.trans (Below.mono (below_drewN (Below.refl _ _) n14) HB13.out.size)))).mono ?_; rintro e wq ⟨rfl, rfl⟩))
            have hb14 := below_drewN (Below.refl w13.heap.size w13) n14
            generalize w13.drewN n14 = w14 at hb14 ⊢
            have HB14 := Lib.hid (HB13.out.trans (hb14.mono HB13.out.size))
            have hs14 := HB14.out.size
            refine (log_format w7.heap.size C 0 40 dm w14 (HDM.out.below HB14.out) (by omega) (by decide) (by decide) (by rw [hdmN]; decide) (by omega) (by omega)).mono ?_
            rintro e w15 ⟨rfl, hl4, hc4, hs4⟩
            have HDF := Lib.hid hl4.dk
            have hfl := foD_log 0 40 dm (by decide)
            have hff := foD_fields dm 0 40
            have HOV15 := Lib.hid (RowsAt.chg (av := av0.with I2) (RowsAt.below (av := av0.with I2) HOV.out HB14.out) hc4)
            have HB15 := Lib.hid ((HB310.out.trans (HB14.out.mono HB310.out.size)).trans (hc4.below.mono hs7))
            have haf0 := HAF.out
            generalize foD 0 40 dm = df at HDF hfl hff haf0
            generalize w14.heap.size + 1 = P4
            clear hl4 hc4 hs4 hb14 HAF HAO HLM HLN HB12 HOV
            have hs15 := HB15.out.size
            have hdfN : df.N = 40 := hff.1.trans hdmN
            have hdfs : df.syncs.length ≤ 4 := by omega
            obtain ⟨p0, p1, p2, p3⟩ := HBC.out _ HB15.out
            have e27 : IntKind.i64.wrap ((df.log.length : Int) - dm.log.length) = (df.log.length : Int) - dm.log.length := IntWalk.i64_in _ (by omega)
            have emx : ¬ ((df.log.length : Int) - dm.log.length < 1) := by omega
            have hg1 : dm.log.length < df.log.length := by omega
            have hg2 : df.log.length ≤ 82 := by omega
            clear hfl hff
            go_wp2_with fail
            refine Go.Proofs.YtcjhligknhpadaaDoorW.PrintLast.start_ (n := 12) (S := fun v => v.cell? ⟨b6, 0, none⟩ = some (.int .i64 x2) ∧ v.cell? ⟨b6, 1, none⟩ = some (.slice ka2 nk2 kc2)) (ds := [11]) #[false, false, false, false, false, false, false, false, false, false, false, false] (by kernel_rfl) rfl rfl ⟨p2, p3⟩ (fun hHeld => ?_)
            refine Go.Proofs.YtcjhligknhpadaaDoorW.PrintLast.pure_ (i := 0) (N := some 141) (v := ?_) (a' := ?_) #[true, false, false, false, false, false, false, false, false, false, false, false] rfl rfl (by kernel_rfl) (fun _ _ _ h => h) (Or.inl ⟨by rfl, ?_⟩) ?_ ?_
            rotate_left
            · intro w'
              go_simp
              with_reducible rfl
            rotate_left
            · simp only [Act.put, List.setIfInBounds_toArray, List.set_cons_zero, List.set_cons_succ, Go.Proofs.YtcjhligknhpadaaDoorW.PrintLast.i64_w, Go.Proofs.YtcjhligknhpadaaDoorW.PrintLast.i32_w]
              rfl
            refine Go.Proofs.YtcjhligknhpadaaDoorW.PrintLast.pure_ (i := 1) (N := some 142) (v := ?_) (a' := ?_) #[true, true, false, false, false, false, false, false, false, false, false, false] rfl rfl (by kernel_rfl) (fun _ _ _ h => h) (Or.inl ⟨by rfl, ?_⟩) ?_ ?_
            rotate_left
            · intro w'
              go_simp
              with_reducible rfl
            rotate_left
            · simp only [Act.put, List.setIfInBounds_toArray, List.set_cons_zero, List.set_cons_succ, Go.Proofs.YtcjhligknhpadaaDoorW.PrintLast.i64_w, Go.Proofs.YtcjhligknhpadaaDoorW.PrintLast.i32_w]
              rfl
            refine Go.Proofs.YtcjhligknhpadaaDoorW.PrintLast.pure_ (i := 2) (N := some 143) (v := ?_) (a' := ?_) #[true, true, true, false, false, false, false, false, false, false, false, false] rfl rfl (by kernel_rfl) (fun _ _ _ h => h) (Or.inl ⟨by rfl, ?_⟩) ?_ ?_
            rotate_left
            · intro w'
              go_simp
              with_reducible rfl
            rotate_left
            · simp only [Act.put, List.setIfInBounds_toArray, List.set_cons_zero, List.set_cons_succ, Go.Proofs.YtcjhligknhpadaaDoorW.PrintLast.i64_w, Go.Proofs.YtcjhligknhpadaaDoorW.PrintLast.i32_w]
              rfl
            refine Go.Proofs.YtcjhligknhpadaaDoorW.PrintLast.take_ (i := 3) (N := some 144) (v := ?_) (a' := ?_) #[true, true, true, true, false, false, false, false, false, false, false, false] rfl rfl (by kernel_rfl) (fun _ _ _ h => h) (Or.inl ⟨by rfl, ?_⟩) hHeld ?_ ?_
            rotate_left
            · rintro w' ⟨s0, s1⟩
              go_simp
              with_reducible rfl
            rotate_left
            · simp only [Act.put, List.setIfInBounds_toArray, List.set_cons_zero, List.set_cons_succ, Go.Proofs.YtcjhligknhpadaaDoorW.PrintLast.i64_w, Go.Proofs.YtcjhligknhpadaaDoorW.PrintLast.i32_w]
              rfl
            refine Go.Proofs.YtcjhligknhpadaaDoorW.PrintLast.pure_ (i := 4) (N := some 145) (v := ?_) (a' := ?_) #[true, true, true, true, true, false, false, false, false, false, false, false] rfl rfl (by kernel_rfl) (fun _ _ _ h => h) (Or.inl ⟨by rfl, ?_⟩) ?_ ?_
            rotate_left
            · intro w'
              go_simp
              with_reducible rfl
            rotate_left
            · simp only [Act.put, List.setIfInBounds_toArray, List.set_cons_zero, List.set_cons_succ, Go.Proofs.YtcjhligknhpadaaDoorW.PrintLast.i64_w, Go.Proofs.YtcjhligknhpadaaDoorW.PrintLast.i32_w]
              rfl
            refine Go.Proofs.YtcjhligknhpadaaDoorW.PrintLast.pure_ (i := 6) (N := some 147) (v := ?_) (a' := ?_) #[true, true, true, true, true, false, true, false, false, false, false, false] rfl rfl (by kernel_rfl) (fun _ _ _ h => h) (Or.inl ⟨by rfl, ?_⟩) ?_ ?_
            rotate_left
            · intro w'
              go_simp
              with_reducible rfl
            rotate_left
            · simp only [Act.put, List.setIfInBounds_toArray, List.set_cons_zero, List.set_cons_succ, Go.Proofs.YtcjhligknhpadaaDoorW.PrintLast.i64_w, Go.Proofs.YtcjhligknhpadaaDoorW.PrintLast.i32_w]
              rfl
            refine Go.Proofs.YtcjhligknhpadaaDoorW.PrintLast.one_ (i := 5) (N := some 146) #[true, true, true, true, true, true, true, false, false, false, false, false] rfl rfl (by kernel_rfl) (by decide) (fun K hK => ?_)
            refine Go.Proofs.YtcjhligknhpadaaDoorW.PrintLast.goes_ Tryd.func27 (by kernel_rfl) rfl #[.pointer (some ⟨C, 0, none⟩)] (by rfl) rfl rfl (by (try simp only [List.map_toArray, List.map_cons, List.map_nil]); first | done | rfl) ?_
            refine (dk_writes w7.heap.size _ C df (HDF.out.below (Below.refl _ _).drew)).mono ?_
            rintro e wq ⟨rfl, rfl⟩
            refine ⟨_, rfl, ?_⟩
            refine hK.out _ _ hHeld (fun hHeld => ?_)
            clear hK K
            refine Go.Proofs.YtcjhligknhpadaaDoorW.PrintLast.norm_ (a' := ?_) ?_ ?_
            rotate_left
            · show Act.put _ (some 146) _ = _
              simp only [Act.put, List.setIfInBounds_toArray, List.set_cons_zero, List.set_cons_succ, Go.Proofs.YtcjhligknhpadaaDoorW.PrintLast.i64_w, Go.Proofs.YtcjhligknhpadaaDoorW.PrintLast.i32_w]
              rfl
            refine Go.Proofs.YtcjhligknhpadaaDoorW.PrintLast.pure_ (i := 7) (N := some 148) (v := ?_) (a' := ?_) #[true, true, true, true, true, true, true, true, false, false, false, false] rfl rfl (by kernel_rfl) (fun _ _ _ h => h) (Or.inl ⟨by rfl, ?_⟩) ?_ ?_
            rotate_left
            · intro w'
              go_simp
              with_reducible rfl
            rotate_left
            · simp only [Act.put, List.setIfInBounds_toArray, List.set_cons_zero, List.set_cons_succ, Go.Proofs.YtcjhligknhpadaaDoorW.PrintLast.i64_w, Go.Proofs.YtcjhligknhpadaaDoorW.PrintLast.i32_w]
              rfl
            refine Go.Proofs.YtcjhligknhpadaaDoorW.PrintLast.take_ (i := 8) (N := some 149) (v := ?_) (a' := ?_) #[true, true, true, true, true, true, true, true, true, false, false, false] rfl rfl (by kernel_rfl) (fun _ _ _ h => h) (Or.inl ⟨by rfl, ?_⟩) hHeld ?_ ?_
            rotate_left
            · rintro w' ⟨s0, s1⟩
              go_simp
              with_reducible rfl
            rotate_left
            · simp only [Act.put, List.setIfInBounds_toArray, List.set_cons_zero, List.set_cons_succ, Go.Proofs.YtcjhligknhpadaaDoorW.PrintLast.i64_w, Go.Proofs.YtcjhligknhpadaaDoorW.PrintLast.i32_w]
              rfl
            refine Go.Proofs.YtcjhligknhpadaaDoorW.PrintLast.one_ (i := 9) (N := some 150) #[true, true, true, true, true, true, true, true, true, true, false, false] rfl rfl (by kernel_rfl) (by decide) (fun K hK => ?_)
            refine Go.Proofs.YtcjhligknhpadaaDoorW.PrintLast.goes_ Tryd.func17 (by kernel_rfl) rfl #[.int .i64 x2, .int .i64 (if (df.log.length : Int) - dm.log.length < 1 then 1 else (df.log.length : Int) - dm.log.length)] (by rfl) rfl rfl (by (try simp only [List.map_toArray, List.map_cons, List.map_nil]); first | done | rfl) ?_
            rw [if_neg (by omega)]
            refine (pick_any x2 _ _ HX2.out.1 HX2.out.2 (by omega) (by omega)).mono ?_
            rintro e wq ⟨⟨r3, hr3, rfl⟩, rfl⟩
            have eR : IntKind.i64.wrap ((dm.log.length : Int) + 1 + r3) = (dm.log.length : Int) + 1 + r3 := IntWalk.i64_in _ (by omega)
            refine ⟨_, rfl, ?_⟩
            refine hK.out _ _ hHeld (fun hHeld => ?_)
            clear hK K
            refine Go.Proofs.YtcjhligknhpadaaDoorW.PrintLast.norm_ (a' := ?_) ?_ ?_
            rotate_left
            · show Act.put _ (some 150) _ = _
              simp only [Act.put, List.setIfInBounds_toArray, List.set_cons_zero, List.set_cons_succ, Go.Proofs.YtcjhligknhpadaaDoorW.PrintLast.i64_w, Go.Proofs.YtcjhligknhpadaaDoorW.PrintLast.i32_w]
              rfl
            refine Go.Proofs.YtcjhligknhpadaaDoorW.PrintLast.pure_ (i := 10) (N := some 151) (v := ?_) (a' := ?_) #[true, true, true, true, true, true, true, true, true, true, true, false] rfl rfl (by kernel_rfl) (fun _ _ _ h => h) (Or.inl ⟨by rfl, ?_⟩) ?_ ?_
            rotate_left
            · intro w'
              go_simp
              with_reducible rfl
            rotate_left
            · simp only [Act.put, List.setIfInBounds_toArray, List.set_cons_zero, List.set_cons_succ, Go.Proofs.YtcjhligknhpadaaDoorW.PrintLast.i64_w, Go.Proofs.YtcjhligknhpadaaDoorW.PrintLast.i32_w]
              rfl
            refine Go.Proofs.YtcjhligknhpadaaDoorW.PrintLast.pure_ (i := 11) (N := some 23) (v := ?_) (a' := ?_) #[true, true, true, true, true, true, true, true, true, true, true, true] rfl rfl (by kernel_rfl) (fun _ _ _ h => h) (Or.inl ⟨by rfl, ?_⟩) ?_ ?_
            rotate_left
            · intro w'
              go_simp
              with_reducible rfl
            rotate_left
            · simp only [Act.put, List.setIfInBounds_toArray, List.set_cons_zero, List.set_cons_succ, Go.Proofs.YtcjhligknhpadaaDoorW.PrintLast.i64_w, Go.Proofs.YtcjhligknhpadaaDoorW.PrintLast.i32_w]
              rfl
            refine Go.Proofs.YtcjhligknhpadaaDoorW.PrintLast.done_ (by kernel_rfl) ?_
            have haf := haf0 (dm.log.length + 1 + r3) kp2 (by omega) (by omega)
            have hd5N : (leftD df (safeAt df.syncs (dm.log.length + 1 + r3) df.syncs.length) (dm.log.length + 1 + r3) kp2).N = 40 := hdfN
            have hd5l : (leftD df (safeAt df.syncs (dm.log.length + 1 + r3) df.syncs.length) (dm.log.length + 1 + r3) kp2).log = [] := rfl
            have hd5s : (leftD df (safeAt df.syncs (dm.log.length + 1 + r3) df.syncs.length) (dm.log.length + 1 + r3) kp2).syncs = [] := rfl
            have hca := dk_cutat w7.heap.size w15.heap.size w15.drew C df (dm.log.length + 1 + r3) (.slice ka2 nk2 kc2) kp2 (HDF.out.below (Below.refl _ _).drew) (by omega) (by omega) (Nat.le_refl _) (HK2.out.mono (below_cells (HW3.out _ (HB15.out.trans ((Below.refl _ w15).drew.mono HB15.out.size))))) (by omega)
            rw [show ((dm.log.length + 1 + r3 : Nat) : Int) = (dm.log.length : Int) + 1 + r3 by omega] at hca
            generalize leftD df (safeAt df.syncs (dm.log.length + 1 + r3) df.syncs.length) (dm.log.length + 1 + r3) kp2 = d5 at haf hd5N hd5l hd5s hca
            have HCA := Lib.hid hca
            clear hca haf0 p0 p1
            obtain ⟨l5, hl5e⟩ : ∃ l5, l5 = opL 0 40 d5 := ⟨_, rfl⟩
            rw [← hl5e] at haf
            have HL5E := Lib.hid hl5e
            have HAF5 := Lib.hid haf
            obtain ⟨n5, hn5⟩ : ∃ n5, n5 = l5.recs.length := ⟨_, rfl⟩
            have HN5 := Lib.hid hn5
            clear hl5e haf hn5
            by_cases hz : n5 = 0
            · have HZ := Lib.hid hz
              clear hz
              go_wp2_with (first | (go_at_call 26; refine HCA.out.mono ?_; rintro e w16 ⟨C5, rfl, hC5, hb16⟩; have HC5 := Lib.hid hC5; have HB16 := Lib.hid ((Below.refl _ w15).drew.trans hb16); clear hC5 hb16) | (go_at_call 9; refine (log_open w15.heap.size C5 0 40 d5 w16 HC5.out (by omega) HB16.out.size (HT.out.mono (HW3.out _ (HB15.out.trans (HB16.out.mono HB15.out.size))) hp0) (by decide) (by decide) (by rw [hd5N]; decide) (by rw [hd5l]; decide) (by rw [hd5s]; decide)).mono ?_; rintro e w17 ⟨rfl, rv5, hl5, hc5, _⟩; have HB17 := Lib.hid (HB16.out.trans hc5.below); generalize w16.heap.size + 1 = P5 at hl5 ⊢; generalize w16.heap.size = I5 at hl5; rw [← HL5E.out] at hl5; generalize opD 0 40 d5 = dd5 at hl5; have HL5q := Lib.hid hl5; clear hl5 hc5 HC5) | (go_at_call 13; refine (log_records w15.heap.size w17 P5 C5 I5 rv5 l5 dd5 HL5q.out).mono ?_; rintro e w18 ⟨ov5, rfl, hov5, hb18⟩; have HB1518 := Lib.hid (HB17.out.trans (hb18.mono HB17.out.size)); obtain ⟨oa, oc, hoe⟩ : ∃ a c, ov5 = .slice a 0 c := (by obtain ⟨vsq, e1q, e2q, e3q⟩ := hov5; obtain ⟨a, c, q⟩ := own_slice e3q; exact ⟨a, c, by rw [q, ← HN5.out, HZ.out]⟩); subst hoe; clear hov5 hb18))
              go_ret
              exact ⟨rfl, HW3.out _ (HB15.out.trans ((HB1518.out).mono HB15.out.size))⟩
            · have hzi : ((n5 : Int) == 0) = false := by simpa using hz
              have HZ := Lib.hid hz
              clear hz
              go_wp2_with (first | (go_at_call 26; refine HCA.out.mono ?_; rintro e w16 ⟨C5, rfl, hC5, hb16⟩; have HC5 := Lib.hid hC5; have HB16 := Lib.hid ((Below.refl _ w15).drew.trans hb16); clear hC5 hb16) | (go_at_call 9; refine (log_open w15.heap.size C5 0 40 d5 w16 HC5.out (by omega) HB16.out.size (HT.out.mono (HW3.out _ (HB15.out.trans (HB16.out.mono HB15.out.size))) hp0) (by decide) (by decide) (by rw [hd5N]; decide) (by rw [hd5l]; decide) (by rw [hd5s]; decide)).mono ?_; rintro e w17 ⟨rfl, rv5, hl5, hc5, _⟩; have HB17 := Lib.hid (HB16.out.trans hc5.below); generalize w16.heap.size + 1 = P5 at hl5 ⊢; generalize w16.heap.size = I5 at hl5; rw [← HL5E.out] at hl5; generalize opD 0 40 d5 = dd5 at hl5; have HL5q := Lib.hid hl5; clear hl5 hc5 HC5) | (go_at_call 13; refine (log_records w15.heap.size w17 P5 C5 I5 rv5 l5 dd5 HL5q.out).mono ?_; rintro e w18 ⟨ov5, rfl, hov5, hb18⟩; have HB1518 := Lib.hid (HB17.out.trans (hb18.mono HB17.out.size)); have hrr : l5.recs = lm.recs := HAF5.out.resolve_right (fun q => HZ.out (by rw [HN5.out, q]; rfl)); have HOV5 := Lib.hid (show RowsIn w18 ov5 lm.recs from by rw [hrr] at hov5; exact RowsAt.in_ (av := av0.with I5) hov5 HROK.out.1 HROK.out.2); obtain ⟨oa, oc, hoe⟩ : ∃ a c, ov5 = .slice a n5 c := (by obtain ⟨vsq, e1q, e2q, e3q⟩ := hov5; obtain ⟨a, c, q⟩ := own_slice e3q; exact ⟨a, c, by rw [q, HN5.out]⟩); subst hoe; clear hov5 hb18) | (go_at_call 23; refine (same_rows w18 _ ov lm.recs lm.recs HOV5.out ((RowsAt.in_ (av := av0.with I2) HOV15.out HROK.out.1 HROK.out.2).mono (below_cells HB1518.out))).mono ?_; rintro e wq ⟨he, n19, rfl⟩; rw [show decide (lm.recs = lm.recs) = true by simp] at he; subst he))
              go_ret
              exact ⟨rfl, HW3.out _ (HB15.out.trans ((below_drewN HB1518.out n19).mono HB15.out.size))⟩

end Dk
end Go.Proofs.YtcjhligknhpadaaDoor

namespace Go.Proofs.YtcjhligknhpadaaDoor
open Go.RowKit Go.ChangeShapes Go.WideShapes Go.Deep Go.Proofs.YtcjhligknhpadaaDoor.Wp
set_option linter.unusedVariables false
set_option linter.unusedSimpArgs false
namespace Dk

set_option maxRecDepth 100000 in
theorem cut_in {H : Type} {enc : TypeId × Value → H} {w : World} {base : Nat} {held : Bool} {a b : Value} {x : DataW H × List MemPlace} {fuel : Nat} (hf : DataW.trod enc Tryd.prog w base (fun _ => true) held fuel 55 [a, b] = some x) : ∃ (n : Int) (kp : List Bool), a = .int .i64 n ∧ (-9223372036854775808 ≤ n ∧ n ≤ 9223372036854775807) ∧ BoolsIn w b kp := by
  obtain ⟨ys, n', hn', hy, hlen, hyl, hfs⟩ := DataW.trod_struct Tryd.underlying55 hf
  obtain ⟨y0, y1, rfl⟩ : ∃ y0 y1, ys = [y0, y1] := by
    match ys, hyl with
    | [y0, y1], _ => exact ⟨y0, y1, rfl⟩
  have c0 : Tryd.prog.cellsOf 3 = 1 := by kernel_rfl
  have c1 : Tryd.prog.cellsOf 41 = 1 := by kernel_rfl
  have f0 : DataW.trod enc Tryd.prog w base (fun _ => true) held n' 3 (List.take (Tryd.prog.cellsOf 3) (List.drop 0 [a, b])) = some y0 := hfs 0 _ rfl
  have f1 : DataW.trod enc Tryd.prog w base (fun _ => true) held n' 41 (List.take (Tryd.prog.cellsOf 41) (List.drop 1 [a, b])) = some y1 := hfs 1 _ rfl
  rw [c0] at f0
  rw [c1] at f1
  obtain ⟨s, e, z, b0⟩ := DataW.trod_int Tryd.underlying3 f0
  have e' : [a] = [Value.int .i64 s] := e
  simp only [List.cons.injEq, and_true] at e'
  obtain ⟨kp, hk⟩ := bools_in f1
  exact ⟨s, kp, e', (by have hz := b0; simp only [Lit.wf, Bool.and_eq_true, decide_eq_true_eq] at hz; exact hz), hk⟩
set_option maxRecDepth 100000 in
theorem torn_in {H : Type} {enc : TypeId × Value → H} {w : World} {r : Reach} {b0 : Nat} {v : Value} {d : DataW H} {p : List MemPlace} (hv : Value.okWide Tryd.prog w r b0 57 v) (h : DataW.Trod enc Tryd.prog w 0 (fun _ => true) true 57 v d p) :
    ∃ (v1 v2 : Value) (x1 : Int) (k1 : Value) (x2 : Int) (k2 : Value) (fs ms : List (List Int)) (kp1 kp2 : List Bool), v = .agg #[v1, v2, .int .i64 x1, k1, .int .i64 x2, k2] ∧ RowsIn w v1 fs ∧ RowsIn w v2 ms ∧ (-9223372036854775808 ≤ x1 ∧ x1 ≤ 9223372036854775807) ∧ BoolsIn w k1 kp1 ∧ (-9223372036854775808 ≤ x2 ∧ x2 ≤ 9223372036854775807) ∧ BoolsIn w k2 kp2 := by
  obtain ⟨cs, rfl, hsz⟩ := okWide_struct Tryd.underlying57 hv
  have h6 : Tryd.prog.cellsOf 57 = 6 := by kernel_rfl
  obtain ⟨l⟩ := cs
  have hl : l.length = 6 := by have := hsz.trans h6; simpa using this
  obtain ⟨a0, a1, a2, a3, a4, a5, rfl⟩ : ∃ a0 a1 a2 a3 a4 a5, l = [a0, a1, a2, a3, a4, a5] := by
    match l, hl with
    | [a0, a1, a2, a3, a4, a5], _ => exact ⟨a0, a1, a2, a3, a4, a5, rfl⟩
  obtain ⟨fuel, hf⟩ := h
  have hf' : DataW.trod enc Tryd.prog w 0 (fun _ => true) true fuel 57 [a0, a1, a2, a3, a4, a5] = some (d, p) := hf
  obtain ⟨ys, n', hn', hy, hlen, hyl, hfs⟩ := DataW.trod_struct Tryd.underlying57 hf'
  obtain ⟨y0, y1, y2, y3, rfl⟩ : ∃ y0 y1 y2 y3, ys = [y0, y1, y2, y3] := by
    match ys, hyl with
    | [y0, y1, y2, y3], _ => exact ⟨y0, y1, y2, y3, rfl⟩
  have c0 : Tryd.prog.cellsOf 30 = 1 := by kernel_rfl
  have c2 : Tryd.prog.cellsOf 55 = 2 := by kernel_rfl
  have f0 : DataW.trod enc Tryd.prog w 0 (fun _ => true) true n' 30 (List.take (Tryd.prog.cellsOf 30) (List.drop 0 [a0, a1, a2, a3, a4, a5])) = some y0 := hfs 0 _ rfl
  have f1 : DataW.trod enc Tryd.prog w 0 (fun _ => true) true n' 30 (List.take (Tryd.prog.cellsOf 30) (List.drop 1 [a0, a1, a2, a3, a4, a5])) = some y1 := hfs 1 _ rfl
  have f2 : DataW.trod enc Tryd.prog w 0 (fun _ => true) true n' 55 (List.take (Tryd.prog.cellsOf 55) (List.drop 2 [a0, a1, a2, a3, a4, a5])) = some y2 := hfs 2 _ rfl
  have f3 : DataW.trod enc Tryd.prog w 0 (fun _ => true) true n' 55 (List.take (Tryd.prog.cellsOf 55) (List.drop 4 [a0, a1, a2, a3, a4, a5])) = some y3 := hfs 3 _ rfl
  rw [c0] at f0 f1
  rw [c2] at f2 f3
  obtain ⟨fs, hfs1⟩ := rows_in f0
  obtain ⟨ms, hms1⟩ := rows_in f1
  obtain ⟨x1, kp1, e1, r1, b1⟩ := cut_in f2
  obtain ⟨x2, kp2, e2, r2, b2⟩ := cut_in f3
  subst e1 e2
  exact ⟨a0, a1, x1, a3, x2, a5, fs, ms, kp1, kp2, rfl, hfs1, hms1, r1, b1, r2, b2⟩
theorem again_walk' (v1 v2 : Value) (x1 : Int) (k1 : Value) (x2 : Int) (k2 : Value) (w : World) (ht : Tab w) {fs ms : List (List Int)} {kp1 kp2 : List Bool} (h1 : RowsIn w v1 fs) (h2 : RowsIn w v2 ms) (hx1 : -9223372036854775808 ≤ x1 ∧ x1 ≤ 9223372036854775807) (hk1 : BoolsIn w k1 kp1) (hx2 : -9223372036854775808 ≤ x2 ∧ x2 ≤ 9223372036854775807) (hk2 : BoolsIn w k2 kp2) :
    Calls Tryd.prog 6 #[.agg #[v1, v2, .int .i64 x1, k1, .int .i64 x2, k2]] w fun e w' => e = .returned (.bool true) ∧ Below w.heap.size w w' := by
  obtain ⟨a1, c1, rfl, q1⟩ := hk1
  obtain ⟨a2, c2, rfl, q2⟩ := hk2
  exact again_walk v1 v2 x1 a1 kp1.length c1 x2 a2 kp2.length c2 w ht h1 h2 hx1 ⟨a1, c1, rfl, q1⟩ hx2 ⟨a2, c2, rfl, q2⟩
end Dk
end Go.Proofs.YtcjhligknhpadaaDoor

namespace Go.Proofs.YtcjhligknhpadaaDoor.walAgain
open Go.ChangeShapes Go.WideShapes Go.ChangeAt Go.RowKit
open Go.ChangeMaps (open_string shut_string)
open Go.Joins Go.Deep
set_option linter.unusedVariables false
set_option linter.unusedSimpArgs false
set_option maxRecDepth 100000 in
theorem contract (H : Type) (enc : TypeId × Value → H) (W : World) (base : Nat) (args : Array Value) (ds gs : List (DataW H)) (before : List MemPlace)
    (hval0 : ∀ (j : Nat) t v, Tryd.f6.params[j]? = some t → args[j]? = some v → Value.okWide Tryd.prog W .any base t v)
    (hW : DataW.Whole enc Tryd.prog Tryd.f6.params.toList Rows.walAgainSpec.vars false W args.toList ds gs before)
    (hsz0 : (DataW.weightsEach Tryd.prog (Tryd.f6.params.toList ++ (OpenSpec.ofChange Rows.walAgainSpec).bare.plain.varTypes Tryd.prog) (ds ++ gs)).all (· ≤ reachBytes) = true) (hL : laidMetH Tryd.prog Rows.walAgainRow.laid W) :
    Calls Tryd.prog 6 args W fun e W' => ∃ v, e = .returned v ∧ Rows.walAgainSpec.post enc Tryd.prog Tryd.f6 false true false false W args v W' := by
  have hval := hval0
  have hW' := hW
  obtain ⟨p, q, hA0, hV, rfl, hfz, hnd⟩ := hW
  have hA : DataW.TrodAll enc Tryd.prog W 0 (fun _ => true) true Tryd.f6.params.toList args.toList ds p := hA0
  have hsz := hsz0
  rw [Tryd.params6] at hA hval hsz
  obtain ⟨v0, vs0, d0, ds0, p0, q0, hargs, rfl, rfl, h0, r0⟩ := trodAll_cons hA
  obtain ⟨rfl, rfl, rfl⟩ := trodAll_nil r0
  obtain rfl : args = #[v0] := by cases args; simp_all
  obtain ⟨rfl, rfl⟩ := trodVars_none hV
  have k0 := h0
  have lt0 : ∀ x ∈ p0, x.block < W.heap.size := by obtain ⟨m, hm⟩ := k0; exact DataW.trod_lt m _ _ _ hm
  obtain ⟨u1, u2, x1, kv1, x2, kv2, fs, ms, kp1, kp2, rfl, o1, o2, g1, b1, g2, b2⟩ := Dk.torn_in (hval 0 57 v0 rfl rfl) h0
  clear hA0 hval0 hsz hsz0
  refine (Dk.again_walk' u1 u2 x1 kv1 x2 kv2 W (Vl.tab_of hL) o1 o2 g1 b1 g2 b2).mono fun e W' ⟨he, bel⟩ => ?_
  subst he
  exact ⟨_, rfl, _, _, _, [], _, [], hW', trodAll_mk1 (shut_bool Tryd.underlying4 _), (trodAll_cons_mk (Below.trod Vl.laidOut (by kernel_rfl) (of_decide_eq_true (by kernel_rfl)) k0 bel lt0) trodAll_mk0), rfl, bel.frame _, fun h => by cases h⟩
theorem laid_met (os : Os) : laidMet Tryd.prog Rows.walAgainRow.laid ((Vl.laidWorld os).forCall (fun _ _ => 0) ⟨#[], #[.agg #[.slice none 0 0, .slice none 0 0, .int .i64 0, .slice none 0 0, .int .i64 0, .slice none 0 0]], []⟩).memory :=
  laidMet_of_run' 8 (by kernel_rfl) (by kernel_rfl)
theorem reads (os : Os) {H : Type} (enc : TypeId × Value → H) : ∃ places, DataW.whole enc Tryd.prog ((Vl.laidWorld os).forCall (fun _ _ => 0) ⟨#[], #[.agg #[.slice none 0 0, .slice none 0 0, .int .i64 0, .slice none 0 0, .int .i64 0, .slice none 0 0]], []⟩).memory Tryd.f6.params.toList Rows.walAgainSpec.vars false (#[.agg #[.slice none 0 0, .slice none 0 0, .int .i64 0, .slice none 0 0, .int .i64 0, .slice none 0 0]] : Array Value).toList 8 = some ([.agg [.nil, .nil, .agg [.lit (.int .i64 0), .nil], .agg [.lit (.int .i64 0), .nil]]], [], places) :=
  ⟨[], by kernel_rfl⟩
set_option maxRecDepth 100000 in
theorem lifted (os : Os) (started : os.Started) (H : Type) (enc : TypeId × Value → H) (F : Stop.Interp) :
    ReturnsInHanded {} Tryd.checked os 6 .any ((OpenSpec.ofChange Rows.walAgainSpec).preRow enc Tryd.prog Tryd.f6 Rows.walAgainRow.domain false Rows.walAgainRow.laid) (((OpenSpec.ofChange Rows.walAgainSpec).at F).post enc Tryd.prog Tryd.f6 false true false false) := by
  obtain ⟨places, hx⟩ := reads os enc
  refine returnsInHanded_of_row (C := Tryd.checked) (s := OpenSpec.ofChange Rows.walAgainSpec) Vl.own started (by kernel_rfl) Tryd.func6
    (witness_row_at (enc := enc) (C := Tryd.checked) false (Vl.laidWorld os) #[.agg #[.slice none 0 0, .slice none 0 0, .int .i64 0, .slice none 0 0, .int .i64 0, .slice none 0 0]] rfl (by kernel_rfl) (by kernel_rfl) (by kernel_rfl)
      (OpenSpec.preRow_of_cond 8 hx (by kernel_rfl) (fun k hk => by cases hk) (by kernel_rfl) (laid_met os))) ?_
  intro W base args ds gs before hval hW _ _ hsz hL _ _
  exact contract H enc W base args ds gs before hval hW hsz hL
theorem said : Rows.WalAgainSaid :=
  OpenClaim.holds_of_cond 6 Tryd.f6 rfl rfl rfl rfl rfl rfl rfl ⟨rfl, rfl, rfl, rfl, rfl⟩ rfl rfl rfl rfl rfl (by kernel_rfl) Tryd.func6 (by kernel_rfl)
    (of_decide_eq_true (by kernel_rfl)) (by unfold Func.isWrapper; first | (rw [if_pos (by decide +kernel)]; kernel_rfl) | (rw [if_neg (by decide +kernel)]; exact ⟨rfl, rfl⟩))
    (fun os started H enc _ F => by rw [OpenClaim.pre_eq_preRow]; exact lifted os started H enc F)
theorem plain (f : FuncId) (fn : Func) (hf : Tryd.pinned.checked.prog.funcNamed "stile/stilelaw06.WalAgain" = some f) (hfn : Tryd.pinned.checked.prog.funcs[f]? = some fn) :
    true = Tryd.pinned.checked.prog.looks [] ∧ ∀ (j : Nat) t, fn.params[j]? = some t → Tryd.pinned.checked.prog.wantsStandIn t = false := by
  obtain rfl : f = 6 := Option.some.inj ((show Tryd.prog.funcNamed "stile/stilelaw06.WalAgain" = some 6 by kernel_rfl).symm.trans hf) |>.symm
  obtain rfl : fn = Tryd.f6 := (Option.some.inj (Tryd.func6.symm.trans hfn)).symm
  refine ⟨by kernel_rfl, fun j t ht => ?_⟩
  rw [Tryd.params6] at ht
  have hm : t ∈ [57] := by simpa using Array.mem_of_getElem? ht
  have hall : ([57].all fun u => !Tryd.prog.wantsStandIn u) = true := by kernel_rfl
  exact (show Tryd.prog.wantsStandIn t = false by simpa using List.all_eq_true.1 hall t hm)
end Go.Proofs.YtcjhligknhpadaaDoor.walAgain
namespace Go.Proofs.YtcjhligknhpadaaDoor
/-- THE CARD: the row, its tables tied to the program's text. -/
theorem walAgain_card : Rows.WalAgainCardSaid :=
  Claim7.holds_tied_plain_at .later [] _ _ _ _ walAgain.said (fun _ h => by cases h) (by kernel_rfl) (fun _ h => by cases h) walAgain_row_tie rfl ⟨rfl, rfl⟩ (by kernel_rfl) rfl walAgain.plain (by kernel_rfl)
#print axioms walAgain_card
end Go.Proofs.YtcjhligknhpadaaDoor
