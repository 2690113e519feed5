/- The modes of locks: the reference's Join, the live question, the laws. -/
import Derived.Test.YthgklkmkciljmaaDoorC
namespace Go.Proofs.YthgklkmkciljmaaDoor
open Go.RowKit
set_option linter.unusedVariables false
set_option linter.unusedSimpArgs false
namespace Md
theorem ret_int {k : IntKind} {a b : Int} (h : a = b) : Ending.returned (.int k a) = .returned (.int k b) := by rw [h]
/-- the reference's least mode that covers both -/
def lst (a b m : Int) (n : Nat) : Bool := (List.range n).all fun j => !covB j a || !covB j b || covB j m
def rTry (a b : Int) (m : Nat) : Bool := covB m a && covB m b && lst a b m 7
def rjoinI (a b : Int) : Nat := ((List.range 7).find? (rTry a b)).getD 0
theorem lst_succ (a b m : Int) (n : Nat) : lst a b m (n + 1) = (lst a b m n && (!covB n a || !covB n b || covB n m)) := by
  simp [lst, List.range_succ, List.all_append]

theorem alive_any {w0 : World} (w : World) (g : St w0 w) : Calls Tryd.prog 9 #[] w fun e w' => e = .returned (.bool true) ∧ St w0 w' := by
  have p1 := Lib.hid (show fitsB 3 5 = true by kernel_rfl)
  have p2 := Lib.hid (show fitsB 5 3 = false by kernel_rfl)
  have p3 := Lib.hid (show (joinI 2 3 : Int) = 4 by kernel_rfl)
  have p4 := Lib.hid (show covB 6 4 = true by kernel_rfl)
  have p5 := Lib.hid (show pl 0 ⟨#[]⟩ ⟨#[]⟩ ⟨#[]⟩ false = true by rw [pl_0]; kernel_rfl)
  have G := Lib.hid g
  clear g
  go_enter Tryd.func9, Tryd.ntmps9
  go_wp2_with fail
  refine (fits_any _ _ _ G.out).mono ?_
  rintro e w' ⟨he, rfl⟩; rw [p1.out] at he; subst he
  go_wp2_with fail
  refine (fits_any _ _ _ G.out).mono ?_
  rintro e w' ⟨he, rfl⟩; rw [p2.out] at he; subst he
  go_wp2_with fail
  refine (join_any _ _ _ G.out).mono ?_
  rintro e w' ⟨he, rfl⟩; rw [p3.out] at he; subst he
  go_wp2_with fail
  refine (cov_any _ _ _ G.out).mono ?_
  rintro e w' ⟨he, rfl⟩; rw [p4.out] at he; subst he
  go_wp2_with fail
  refine (place_any _ _ _ _ _ _ (G.out.self)).mono ?_
  rintro e w' ⟨he, hb⟩; rw [p5.out] at he; subst he
  go_wp2_with fail
  go_ret
  exact ⟨rfl, G.out.to hb⟩
set_option maxHeartbeats 2000000 in
theorem rjoin_any {w0 : World} (a b : Int) (w : World) (g : St w0 w) : Calls Tryd.prog 17 #[.int .i64 a, .int .i64 b] w fun e w' => e = .returned (.int .i64 (rjoinI a b)) ∧ St w0 w' := by
  have G := Lib.hid g
  clear g
  go_enter Tryd.func17, Tryd.ntmps17
  go_wp2
  go_loopw [5, 6, 7, 8, 9, 10, 11, 12] (fun v _ _ _ _ _ _ _ wr => ∃ k : Nat, k ≤ 7 ∧ v = .int .i64 k ∧ Hid (∀ j, j < k → rTry a b j = false) ∧ Hid (St w0 wr)) (fun v _ _ _ _ _ _ _ _ => 7 - (intOf v).toNat)
  case atStart => exact ⟨0, by omega, rfl, fun _ h => by omega, G⟩
  case round =>
    obtain ⟨k, hk, rfl, hl, G1⟩ := hrel
    clear G
    by_cases h7 : k < 7
    · have h6 : (k : Int) ≤ 6 := by omega
      go_wp2_with fail
      refine (rcov_any _ _ _ G1.out).mono ?_
      rintro e w1 ⟨he, hb⟩
      have G2 := Lib.hid hb
      clear hb G1
      cases p : covB k a <;> rw [p] at he <;> subst he <;> (have P1 := Lib.hid p; clear p)
      · go_wp2_with fail
        refine (rcov_any _ _ _ G2.out).mono ?_
        rintro e w2 ⟨he, hb⟩
        subst he
        have G3 := Lib.hid hb
        clear hb G2
        go_wp2
        go_roundw
        case rel => exact ⟨k + 1, by omega, by go_num, fun j hj => by rcases Nat.lt_succ_iff_lt_or_eq.1 hj with h | h; exact hl.out j h; subst h; simp [rTry, P1.out], G3⟩
        case measure => simp [intOf]; omega
      · go_wp2_with fail
        refine (rcov_any _ _ _ G2.out).mono ?_
        rintro e w2 ⟨he, hb⟩
        have G3 := Lib.hid hb
        clear hb G2
        cases p : covB k b <;> rw [p] at he <;> subst he <;> (have P2 := Lib.hid p; clear p)
        · go_wp2
          go_roundw
          case rel => exact ⟨k + 1, by omega, by go_num, fun j hj => by rcases Nat.lt_succ_iff_lt_or_eq.1 hj with h | h; exact hl.out j h; subst h; simp [rTry, P2.out], G3⟩
          case measure => simp [intOf]; omega
        · go_wp2
          go_loopw [8, 9, 10, 11, 12] (fun v8 v9 _ _ _ wr => ∃ n : Nat, n ≤ 7 ∧ v9 = .int .i64 n ∧ v8 = .bool (lst a b k n) ∧ Hid (St w0 wr)) (fun _ v9 _ _ _ _ => 7 - (intOf v9).toNat)
          case atStart => exact ⟨0, by omega, rfl, rfl, G3⟩
          case round =>
            obtain ⟨n, hn, rfl, rfl, G4⟩ := hrel
            clear G3
            have hs := Lib.hid (lst_succ a b k n)
            by_cases n7 : n < 7
            · have n6 : (n : Int) ≤ 6 := by omega
              go_wp2_with fail
              refine (rcov_any _ _ _ G4.out).mono ?_
              rintro e w3 ⟨he, hb⟩
              subst he
              have G5 := Lib.hid hb
              clear hb G4
              generalize hc1 : covB n a = c1 at *
              have Hc1 := Lib.hid hc1
              clear hc1
              go_wp2_with fail
              refine (rcov_any _ _ _ G5.out).mono ?_
              rintro e w4 ⟨he, hb⟩
              subst he
              have G6 := Lib.hid hb
              clear hb G5
              generalize hc2 : covB n b = c2 at *
              have Hc2 := Lib.hid hc2
              clear hc2
              go_wp2_with fail
              refine (rcov_any _ _ _ G6.out).mono ?_
              rintro e w5 ⟨he, hb⟩
              subst he
              have G7 := Lib.hid hb
              clear hb G6
              generalize hc3 : covB n k = c3 at *
              have Hc3 := Lib.hid hc3
              clear hc3
              generalize hl0 : lst a b k n = l0 at *
              have Hl := Lib.hid hl0
              clear hl0
              cases l0 <;> cases c1 <;> cases c2 <;> cases c3
              all_goals go_wp2_with fail
              all_goals go_roundw
              all_goals first
                | (case measure => simp [intOf]; omega)
                | (case rel => exact ⟨n + 1, by omega, by go_num, by rw [lst_succ, Hl.out, Hc1.out, Hc2.out, Hc3.out]; rfl, G7⟩)
            · have n6 : (6 : Int) < n := by omega
              obtain rfl : n = 7 := by omega
              clear hs
              generalize hl0 : lst a b k 7 = l0 at *
              have Hl := Lib.hid hl0
              clear hl0
              cases l0
              · go_wp2
                go_roundw
                case rel => exact ⟨k + 1, by omega, by go_num, fun j hj => by rcases Nat.lt_succ_iff_lt_or_eq.1 hj with h | h; exact hl.out j h; subst h; simp [rTry, Hl.out], G4⟩
                case measure => simp [intOf]; omega
              · go_wp2
                go_ret
                have hj : rjoinI a b = k := by unfold rjoinI; rw [find_at _ 7 k h7 (by simp [rTry, P1.out, P2.out, Hl.out]) hl.out]; rfl
                rw [hj]
                exact ⟨rfl, G4.out⟩
    · have h6 : (6 : Int) < k := by omega
      go_wp2
      go_ret
      have hj : rjoinI a b = 0 := by unfold rjoinI; rw [find_no _ 7 fun j hj => hl.out j (by omega)]; rfl
      rw [hj]
      exact ⟨rfl, G1.out⟩
end Md
end Go.Proofs.YthgklkmkciljmaaDoor
