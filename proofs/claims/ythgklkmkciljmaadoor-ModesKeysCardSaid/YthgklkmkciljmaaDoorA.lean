/- The modes of locks: contracts of the small functions. -/
import Derived.Test.YthgklkmkciljmaaDoorProg
import Derived.WalkKit
import Derived.WalkLawsBesides
import Derived.WalkSpells
namespace Go.Proofs.YthgklkmkciljmaaDoor
open Go.RowKit
set_option linter.unusedVariables false
set_option linter.unusedSimpArgs false
namespace Md

def rt (a : Int) : Bool := decide (0 ≤ a) && decide (a ≤ 6)
theorem rt_true {a : Int} (h : rt a = true) : 0 ≤ a ∧ a ≤ 6 := by simpa [rt] using h
theorem rt_false {a : Int} (h : rt a = false) : a < 0 ∨ 6 < a := by simp [rt] at h; omega

def fitsL : List Bool := [true, true, true, true, true, true, true, true, true, true, true, true, true, false, true, true, true, false, false, false, false, true, true, false, true, false, true, false, true, true, false, false, false, false, false, true, true, false, false, false, false, false, true, false, false, false, false, false, false]
def covL : List Int := [1, 3, 7, 11, 31, 43, 127]
/-- what the two package-level tables hold -/
structure Gl (w : World) : Prop where
  size : 2 ≤ w.heap.size
  fits : ∀ i, i < 49 → w.cell? ⟨0, i, none⟩ = some (.bool (fitsL.getD i false))
  cov : ∀ i, i < 7 → w.cell? ⟨1, i, none⟩ = some (.int .u64 (covL.getD i 0))
/-- the world now: what was there when the call began is as it was, the tables among it -/
structure St (w0 w : World) : Prop where
  b : Below w0.heap.size w0 w
  g : Gl w0
theorem St.gl {w0 w : World} (h : St w0 w) : Gl w where
  size := Nat.le_trans h.g.size h.b.size
  fits i hi := by rw [h.b.cell (show 0 < w0.heap.size by have := h.g.size; omega)]; exact h.g.fits i hi
  cov i hi := by rw [h.b.cell (show 1 < w0.heap.size by have := h.g.size; omega)]; exact h.g.cov i hi
theorem St.refl {w : World} (g : Gl w) : St w w := ⟨Below.refl _ _, g⟩
theorem St.alloc {w0 w : World} (h : St w0 w) (o : Obj) : St w0 (w.alloc o) := ⟨h.b.alloc h.b.size o, h.g⟩
theorem St.drew {w0 w : World} (h : St w0 w) : St w0 w.drew := ⟨h.b.drew, h.g⟩
theorem St.drewN {w0 w : World} (h : St w0 w) (n : Nat) : St w0 (w.drewN n) := ⟨h.b.trans ⟨rfl, rfl, rfl, Nat.le_refl _, fun _ _ => rfl⟩, h.g⟩
def fitsB (a b : Int) : Bool := rt a && rt b && fitsL.getD (a.toNat * 7 + b.toNat) false
def bitI (z b : Int) : Bool := bits BinOp.and IntKind.u64 (z / 2 ^ b.toNat) 1 == 1
def covB (a b : Int) : Bool := rt a && rt b && bitI (covL.getD a.toNat 0) b
theorem dec_t {a : Int} (h : rt a = true) : a = 0 ∨ a = 1 ∨ a = 2 ∨ a = 3 ∨ a = 4 ∨ a = 5 ∨ a = 6 := by have := rt_true h; omega

theorem right_any (a : Int) (w : World) : Calls Tryd.prog 10 #[.int .i64 a] w fun e w' => e = .returned (.bool (rt a)) ∧ w = w' := by
  cases h : rt a
  · rcases rt_false h with h1 | h1 <;> clear h
    all_goals go_enter Tryd.func10, Tryd.ntmps10
    all_goals go_wp2
    all_goals go_ret
    · exact ⟨rfl, rfl⟩
    · exact ⟨by simp; omega, rfl⟩
  · obtain ⟨h1, h2⟩ := rt_true h
    clear h
    go_enter Tryd.func10, Tryd.ntmps10
    go_wp2
    go_ret
    exact ⟨rfl, rfl⟩
theorem rright_any (a : Int) (w : World) : Calls Tryd.prog 11 #[.int .i64 a] w fun e w' => e = .returned (.bool (rt a)) ∧ w = w' := by
  cases h : rt a
  · rcases rt_false h with h1 | h1 <;> clear h
    all_goals go_enter Tryd.func11, Tryd.ntmps11
    all_goals go_wp2
    all_goals go_ret
    · exact ⟨rfl, rfl⟩
    · exact ⟨by simp; omega, rfl⟩
  · obtain ⟨h1, h2⟩ := rt_true h
    clear h
    go_enter Tryd.func11, Tryd.ntmps11
    go_wp2
    go_ret
    exact ⟨rfl, rfl⟩
theorem right_b (a : Int) (r : Bool) (h : rt a = r) (w : World) : Calls Tryd.prog 10 #[.int .i64 a] w fun e w' => e = .returned (.bool r) ∧ w = w' := h ▸ right_any a w
theorem rright_b (a : Int) (r : Bool) (h : rt a = r) (w : World) : Calls Tryd.prog 11 #[.int .i64 a] w fun e w' => e = .returned (.bool r) ∧ w = w' := h ▸ rright_any a w

theorem fits_any {w0 : World} (a b : Int) (w : World) (s : St w0 w) : Calls Tryd.prog 12 #[.int .i64 a, .int .i64 b] w fun e w' => e = .returned (.bool (fitsB a b)) ∧ w = w' := by
  unfold fitsB
  cases ha : rt a
  · go_enter Tryd.func12, Tryd.ntmps12
    go_wp2_with (go_at_call 10; refine (right_b _ _ ha _).mono ?_; rintro e w' ⟨rfl, rfl⟩)
    go_ret
    exact ⟨rfl, rfl⟩
  · cases hb : rt b
    · go_enter Tryd.func12, Tryd.ntmps12
      go_wp2_with (go_at_call 10; first | ((with_reducible refine (right_b _ _ ha _).mono ?_); rintro e w' ⟨rfl, rfl⟩) | ((with_reducible refine (right_b _ _ hb _).mono ?_); rintro e w' ⟨rfl, rfl⟩))
      go_ret
      exact ⟨rfl, rfl⟩
    · obtain ⟨A1, A2⟩ := rt_true ha
      obtain ⟨B1, B2⟩ := rt_true hb
      have hc := s.gl.fits (a.toNat * 7 + b.toNat) (by omega)
      generalize fitsL.getD (a.toNat * 7 + b.toNat) false = r at *
      go_enter Tryd.func12, Tryd.ntmps12
      go_wp2_with (go_at_call 10; first | ((with_reducible refine (right_b _ _ ha _).mono ?_); rintro e w' ⟨rfl, rfl⟩) | ((with_reducible refine (right_b _ _ hb _).mono ?_); rintro e w' ⟨rfl, rfl⟩))
      go_ret
      exact ⟨by simp, rfl⟩
theorem cov_any {w0 : World} (a b : Int) (w : World) (s : St w0 w) : Calls Tryd.prog 14 #[.int .i64 a, .int .i64 b] w fun e w' => e = .returned (.bool (covB a b)) ∧ w = w' := by
  unfold covB
  cases ha : rt a
  · go_enter Tryd.func14, Tryd.ntmps14
    go_wp2_with (go_at_call 10; refine (right_b _ _ ha _).mono ?_; rintro e w' ⟨rfl, rfl⟩)
    go_ret
    exact ⟨rfl, rfl⟩
  · cases hb : rt b
    · go_enter Tryd.func14, Tryd.ntmps14
      go_wp2_with (go_at_call 10; first | ((with_reducible refine (right_b _ _ ha _).mono ?_); rintro e w' ⟨rfl, rfl⟩) | ((with_reducible refine (right_b _ _ hb _).mono ?_); rintro e w' ⟨rfl, rfl⟩))
      go_ret
      exact ⟨rfl, rfl⟩
    · obtain ⟨A1, A2⟩ := rt_true ha
      obtain ⟨B1, B2⟩ := rt_true hb
      have hc := s.gl.cov a.toNat (by omega)
      generalize covL.getD a.toNat 0 = z at *
      go_enter Tryd.func14, Tryd.ntmps14
      go_wp2_with (go_at_call 10; first | ((with_reducible refine (right_b _ _ ha _).mono ?_); rintro e w' ⟨rfl, rfl⟩) | ((with_reducible refine (right_b _ _ hb _).mono ?_); rintro e w' ⟨rfl, rfl⟩))
      go_ret
      exact ⟨by simp [bitI], rfl⟩
theorem cov_b {w0 : World} (a b : Int) (r : Bool) (h : covB a b = r) (w : World) (s : St w0 w) : Calls Tryd.prog 14 #[.int .i64 a, .int .i64 b] w fun e w' => e = .returned (.bool r) ∧ w = w' := h ▸ cov_any a b w s
theorem fits_b {w0 : World} (a b : Int) (r : Bool) (h : fitsB a b = r) (w : World) (s : St w0 w) : Calls Tryd.prog 12 #[.int .i64 a, .int .i64 b] w fun e w' => e = .returned (.bool r) ∧ w = w' := h ▸ fits_any a b w s

/-- the least mode that covers both: what the loop tries -/
def jTry (a b : Int) (m : Nat) : Bool := covB m a && covB m b
def joinI (a b : Int) : Nat := ((List.range 7).find? (jTry a b)).getD 0
theorem find_at (p : Nat → Bool) (n k : Nat) (hk : k < n) (h : p k = true) (hl : ∀ j, j < k → p j = false) : (List.range n).find? p = some k := by
  rw [List.find?_range_eq_some]
  exact ⟨h, by simpa using hk, fun j hj => by simp [hl j hj]⟩
theorem find_no (p : Nat → Bool) (n : Nat) (hl : ∀ j, j < n → p j = false) : (List.range n).find? p = none := by
  rw [List.find?_range_eq_none]
  exact fun j hj => by simp [hl j hj]
theorem join_any {w0 : World} (a b : Int) (w : World) (s : St w0 w) : Calls Tryd.prog 16 #[.int .i64 a, .int .i64 b] w fun e w' => e = .returned (.int .i64 (joinI a b)) ∧ w = w' := by
  go_enter Tryd.func16, Tryd.ntmps16
  go_wp2
  go_loop [5] (fun v => ∃ k : Nat, k ≤ 7 ∧ v = .int .i64 k ∧ Hid (∀ j, j < k → jTry a b j = false)) (fun v => 7 - (intOf v).toNat)
  case atStart => exact ⟨0, by omega, rfl, fun _ h => by omega⟩
  case round =>
    obtain ⟨k, hk, rfl, hl⟩ := hrel
    by_cases h7 : k < 7
    · have h6 : (k : Int) ≤ 6 := by omega
      cases h1 : covB k a
      · go_wp2_with (go_at_call 14; refine (cov_b _ _ _ h1 _ s).mono ?_; rintro e w' ⟨rfl, rfl⟩)
        go_round
        case rel => exact ⟨k + 1, by omega, by go_num, fun j hj => by rcases Nat.lt_succ_iff_lt_or_eq.1 hj with h | h; exact hl.out j h; subst h; simp [jTry, h1]⟩
        case measure => simp [intOf]; omega
      · cases h2 : covB k b
        · go_wp2_with (go_at_call 14; first | ((with_reducible refine (cov_b _ _ _ h1 _ s).mono ?_); rintro e w' ⟨rfl, rfl⟩) | ((with_reducible refine (cov_b _ _ _ h2 _ s).mono ?_); rintro e w' ⟨rfl, rfl⟩))
          go_round
          case rel => exact ⟨k + 1, by omega, by go_num, fun j hj => by rcases Nat.lt_succ_iff_lt_or_eq.1 hj with h | h; exact hl.out j h; subst h; simp [jTry, h2]⟩
          case measure => simp [intOf]; omega
        · go_wp2_with (go_at_call 14; first | ((with_reducible refine (cov_b _ _ _ h1 _ s).mono ?_); rintro e w' ⟨rfl, rfl⟩) | ((with_reducible refine (cov_b _ _ _ h2 _ s).mono ?_); rintro e w' ⟨rfl, rfl⟩))
          go_ret
          have hj : joinI a b = k := by unfold joinI; rw [find_at _ 7 k h7 (by simp [jTry, h1, h2]) hl.out]; rfl
          rw [hj]
          exact ⟨rfl, rfl⟩
    · have h6 : (6 : Int) < k := by omega
      go_wp2
      go_ret
      have hj : joinI a b = 0 := by unfold joinI; rw [find_no _ 7 fun j hj => hl.out j (by omega)]; rfl
      rw [hj]
      exact ⟨rfl, rfl⟩

set_option maxHeartbeats 8000000 in
theorem rfits_any {w0 : World} (a b : Int) (w : World) (s : St w0 w) : Calls Tryd.prog 13 #[.int .i64 a, .int .i64 b] w fun e w' => e = .returned (.bool (fitsB a b)) ∧ St w0 w' := by
  cases ha : rt a
  · have hf : fitsB a b = false := by simp [fitsB, ha]
    rw [hf]
    cases hb : rt b
    all_goals go_enter Tryd.func13, Tryd.ntmps13
    all_goals go_wp2_with (go_at_call 11; first | ((with_reducible refine (rright_b _ _ ha _).mono ?_); rintro e w' ⟨rfl, rfl⟩) | ((with_reducible refine (rright_b _ _ hb _).mono ?_); rintro e w' ⟨rfl, rfl⟩))
    all_goals go_ret
    all_goals exact ⟨rfl, s⟩
  · cases hb : rt b
    · have hf : fitsB a b = false := by simp [fitsB, hb]
      rw [hf]
      go_enter Tryd.func13, Tryd.ntmps13
      go_wp2_with (go_at_call 11; first | ((with_reducible refine (rright_b _ _ ha _).mono ?_); rintro e w' ⟨rfl, rfl⟩) | ((with_reducible refine (rright_b _ _ hb _).mono ?_); rintro e w' ⟨rfl, rfl⟩))
      go_ret
      exact ⟨rfl, s⟩
    · have hA := dec_t ha
      have hB := dec_t hb
      rcases hA with rfl | rfl | rfl | rfl | rfl | rfl | rfl <;> rcases hB with rfl | rfl | rfl | rfl | rfl | rfl | rfl
      all_goals go_enter Tryd.func13, Tryd.ntmps13
      all_goals go_wp2_with (go_at_call 11; first | ((with_reducible refine (rright_b _ _ ha _).mono ?_); rintro e w' ⟨rfl, rfl⟩) | ((with_reducible refine (rright_b _ _ hb _).mono ?_); rintro e w' ⟨rfl, rfl⟩))
      all_goals go_ret
      all_goals exact ⟨rfl, s.alloc _⟩
set_option maxHeartbeats 8000000 in
theorem rcov_any {w0 : World} (a b : Int) (w : World) (s : St w0 w) : Calls Tryd.prog 15 #[.int .i64 a, .int .i64 b] w fun e w' => e = .returned (.bool (covB a b)) ∧ St w0 w' := by
  cases ha : rt a
  · have hf : covB a b = false := by simp [covB, ha]
    rw [hf]
    cases hb : rt b
    all_goals go_enter Tryd.func15, Tryd.ntmps15
    all_goals go_wp2_with (go_at_call 11; first | ((with_reducible refine (rright_b _ _ ha _).mono ?_); rintro e w' ⟨rfl, rfl⟩) | ((with_reducible refine (rright_b _ _ hb _).mono ?_); rintro e w' ⟨rfl, rfl⟩))
    all_goals go_ret
    all_goals exact ⟨rfl, s⟩
  · cases hb : rt b
    · have hf : covB a b = false := by simp [covB, hb]
      rw [hf]
      go_enter Tryd.func15, Tryd.ntmps15
      go_wp2_with (go_at_call 11; first | ((with_reducible refine (rright_b _ _ ha _).mono ?_); rintro e w' ⟨rfl, rfl⟩) | ((with_reducible refine (rright_b _ _ hb _).mono ?_); rintro e w' ⟨rfl, rfl⟩))
      go_ret
      exact ⟨rfl, s⟩
    · have hA := dec_t ha
      have hB := dec_t hb
      rcases hA with rfl | rfl | rfl | rfl | rfl | rfl | rfl <;> rcases hB with rfl | rfl | rfl | rfl | rfl | rfl | rfl
      all_goals go_enter Tryd.func15, Tryd.ntmps15
      all_goals go_wp2_with (go_at_call 11; first | ((with_reducible refine (rright_b _ _ ha _).mono ?_); rintro e w' ⟨rfl, rfl⟩) | ((with_reducible refine (rright_b _ _ hb _).mono ?_); rintro e w' ⟨rfl, rfl⟩))
      all_goals go_ret
      all_goals exact ⟨rfl, s.alloc _⟩
end Md
end Go.Proofs.YthgklkmkciljmaaDoor
