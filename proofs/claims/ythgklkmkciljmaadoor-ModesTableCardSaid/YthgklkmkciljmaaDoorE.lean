/- The modes of locks: the laws on modes. -/
import Derived.Test.YthgklkmkciljmaaDoorD
import Derived.Deep.DeepCutAuto
import Derived.Deep.CutBlock
namespace Go.Proofs.YthgklkmkciljmaaDoor
open Go.RowKit
set_option linter.unusedVariables false
set_option linter.unusedSimpArgs false
namespace Md
theorem dec_beq (a b : Int) : decide (a = b) = (a == b) := by by_cases h : a = b <;> simp [h]
theorem cov_left {a b : Int} (h : rt b = false) : covB a b = false := by simp [covB, h]
theorem joins (a b : Int) : rjoinI a b = joinI a b := by
  cases ha : rt a
  · have h1 : joinI a b = 0 := by unfold joinI; rw [find_no _ 7 fun j hj => by simp [jTry, cov_left ha]]; rfl
    have h2 : rjoinI a b = 0 := by unfold rjoinI; rw [find_no _ 7 fun j hj => by simp [rTry, cov_left ha]]; rfl
    rw [h1, h2]
  · cases hb : rt b
    · have h1 : joinI a b = 0 := by unfold joinI; rw [find_no _ 7 fun j hj => by simp [jTry, cov_left hb]]; rfl
      have h2 : rjoinI a b = 0 := by unfold rjoinI; rw [find_no _ 7 fun j hj => by simp [rTry, cov_left hb]]; rfl
      rw [h1, h2]
    · have all : ∀ i j : Fin 7, rjoinI (i.val : Int) (j.val : Int) = joinI (i.val : Int) (j.val : Int) := by decide +kernel
      obtain ⟨A1, A2⟩ := rt_true ha
      obtain ⟨B1, B2⟩ := rt_true hb
      have := all ⟨a.toNat, by omega⟩ ⟨b.toNat, by omega⟩
      simpa [Int.toNat_of_nonneg A1, Int.toNat_of_nonneg B1] using this
set_option maxHeartbeats 1000000 in
theorem table_law {w0 : World} (a b : Int) (w : World) (g : St w0 w) : Calls Tryd.prog 3 #[.int .i64 a, .int .i64 b] w fun e w' => e = .returned (.bool true) ∧ St w0 w' := by
  have J := Lib.hid (joins a b)
  have G := Lib.hid g
  clear g
  go_enter Tryd.func3, Tryd.ntmps3
  go_wp2_with fail
  refine (alive_any _ G.out).mono ?_
  rintro e w1 ⟨rfl, hb⟩
  have G1 := Lib.hid hb
  clear hb
  go_wp2_with fail
  refine (right_any _ _).mono ?_
  rintro e w2 ⟨rfl, rfl⟩
  go_wp2_with fail
  refine (rright_any _ _).mono ?_
  rintro e w2 ⟨rfl, rfl⟩
  go_wp2_with fail
  refine (fits_any _ _ _ G1.out).mono ?_
  rintro e w2 ⟨rfl, rfl⟩
  go_wp2_with fail
  refine (rfits_any _ _ _ G1.out).mono ?_
  rintro e w2 ⟨rfl, hb⟩
  have G2 := Lib.hid hb
  clear hb
  go_wp2_with fail
  refine (cov_any _ _ _ G2.out).mono ?_
  rintro e w3 ⟨rfl, rfl⟩
  go_wp2_with fail
  refine (rcov_any _ _ _ G2.out).mono ?_
  rintro e w3 ⟨rfl, hb⟩
  have G3 := Lib.hid hb
  clear hb
  go_wp2_with fail
  refine (join_any _ _ _ G3.out).mono ?_
  rintro e w4 ⟨rfl, rfl⟩
  go_wp2_with fail
  refine (rjoin_any _ _ _ G3.out).mono ?_
  rintro e w4 ⟨he, hb⟩
  rw [J.out] at he
  subst he
  have G4 := Lib.hid hb
  clear hb
  go_wp2_with fail
  go_ret
  exact ⟨rfl, G4.out⟩

def pickI (c : Int) : Int := (if c < 0 then -(c + 1) else c) % 7
theorem pick_rt (c : Int) (h : -9223372036854775808 ≤ c) : rt (pickI c) = true := by
  have h0 : 0 ≤ pickI c := Int.emod_nonneg _ (by omega)
  have h1 : pickI c < 7 := Int.emod_lt_of_pos _ (by omega)
  simp [rt]; omega
theorem pick_any (c : Int) (w : World) (h1 : -9223372036854775808 ≤ c) (h2 : c ≤ 9223372036854775807) : Calls Tryd.prog 18 #[.int .i64 c, .int .i64 7] w fun e w' => e = .returned (.int .i64 (pickI c)) ∧ w = w' := by
  unfold pickI
  by_cases h0 : c < 0
  · rw [if_pos h0]
    have b1 : 0 ≤ -(c + 1) := by omega
    have b2 : -(c + 1) ≤ 9223372036854775807 := by omega
    go_enter Tryd.func18, Tryd.ntmps18
    go_wp2
    go_ret
    exact ⟨ret_int (by rw [← Int.neg_tmod, Int.tmod_eq_emod_of_nonneg b1]), rfl⟩
  · rw [if_neg h0]
    have b1 : 0 ≤ c := by omega
    go_enter Tryd.func18, Tryd.ntmps18
    go_wp2
    go_ret
    exact ⟨rfl, rfl⟩
/-- what holds of all modes is a matter of trying them -/
theorem all3 (p : Int → Int → Int → Bool) (h : ∀ i j k : Fin 7, p i.val j.val k.val = true) (x y z : Int) (hx : rt x = true) (hy : rt y = true) (hz : rt z = true) : p x y z = true := by
  obtain ⟨A1, A2⟩ := rt_true hx
  obtain ⟨B1, B2⟩ := rt_true hy
  obtain ⟨C1, C2⟩ := rt_true hz
  have := h ⟨x.toNat, by omega⟩ ⟨y.toNat, by omega⟩ ⟨z.toNat, by omega⟩
  simpa [Int.toNat_of_nonneg A1, Int.toNat_of_nonneg B1, Int.toNat_of_nonneg C1] using this
def orderP (x y z : Int) : Bool := covB x x && (decide (x = y) || !covB x y || !covB y x) && (!covB x y || !covB y z || covB x z)
def leastP (x y z : Int) : Bool := covB (joinI x y) x && covB (joinI x y) y && (!covB z x || !covB z y || covB z (joinI x y))
def lastP (x y z : Int) : Bool := decide ((joinI x y : Int) = joinI y x) && decide ((joinI (joinI x y) z : Int) = joinI x (joinI y z)) && (covB x y == decide ((joinI x y : Int) = x)) && rt (joinI x y)
theorem order_all : ∀ i j k : Fin 7, orderP i.val j.val k.val = true := by decide +kernel
theorem least_all : ∀ i j k : Fin 7, leastP i.val j.val k.val = true := by decide +kernel
theorem last_all : ∀ i j k : Fin 7, lastP i.val j.val k.val = true := by decide +kernel
def oneP (x y z : Int) : Bool := !fitsB x y || !covB x z || fitsB z y
def twoP (x y z : Int) : Bool := !fitsB x y || !covB y z || fitsB x z
def nlP (x _y _z : Int) : Bool := fitsB 0 x && fitsB x 0
theorem one_all : ∀ i j k : Fin 7, oneP i.val j.val k.val = true := by decide +kernel
theorem two_all : ∀ i j k : Fin 7, twoP i.val j.val k.val = true := by decide +kernel
theorem nl_all : ∀ i j k : Fin 7, nlP i.val j.val k.val = true := by decide +kernel
set_option maxHeartbeats 4000000 in
theorem stronger_law {w0 : World} (a b c : Int) (w : World) (g : St w0 w) (a1 : -9223372036854775808 ≤ a) (a2 : a ≤ 9223372036854775807) (b1 : -9223372036854775808 ≤ b) (b2 : b ≤ 9223372036854775807) (c1 : -9223372036854775808 ≤ c) (c2 : c ≤ 9223372036854775807) : Calls Tryd.prog 5 #[.int .i64 a, .int .i64 b, .int .i64 c] w fun e w' => e = .returned (.bool true) ∧ St w0 w' := by
  have G := Lib.hid g
  clear g
  go_enter Tryd.func5, Tryd.ntmps5
  go_wp2_with fail
  refine (pick_any a _ a1 a2).mono ?_
  rintro e wx ⟨rfl, rfl⟩
  go_wp2_with fail
  refine (pick_any b _ b1 b2).mono ?_
  rintro e wx ⟨rfl, rfl⟩
  go_wp2_with fail
  refine (pick_any c _ c1 c2).mono ?_
  rintro e wx ⟨rfl, rfl⟩
  have rx := Lib.hid (pick_rt a a1)
  have ry := Lib.hid (pick_rt b b1)
  have rz := Lib.hid (pick_rt c c1)
  generalize pickI a = x at *
  generalize pickI b = y at *
  generalize pickI c = z at *
  have O1 := Lib.hid (all3 _ one_all x y z rx.out ry.out rz.out)
  have O2 := Lib.hid (all3 _ two_all x y z rx.out ry.out rz.out)
  have O3 := Lib.hid (all3 _ nl_all x y z rx.out ry.out rz.out)
  go_upto_region 4 with (fail)
  go_cut [10] (fun v wc => v = .bool true ∧ w = wc)
  case first =>
    go_wp2_with (first | (go_at_call 12; refine (fits_any _ _ _ G.out).mono ?_; rintro e wx ⟨rfl, rfl⟩) | (go_at_call 14; refine (cov_any _ _ _ G.out).mono ?_; rintro e wx ⟨rfl, rfl⟩))
    all_goals go_meet
    all_goals (have q := O1.out; clear O1; simp only [oneP] at q)
    all_goals refine ⟨congrArg Value.bool ?_, rfl⟩
    all_goals simp_all
  case rest =>
    clear O1
    obtain ⟨rfl, rfl⟩ := hcut
    go_upto_region 5 with (fail)
    go_cut [11] (fun v wc => v = .bool true ∧ w = wc)
    case first =>
      go_wp2_with (first | (go_at_call 12; refine (fits_any _ _ _ G.out).mono ?_; rintro e wx ⟨rfl, rfl⟩) | (go_at_call 14; refine (cov_any _ _ _ G.out).mono ?_; rintro e wx ⟨rfl, rfl⟩))
      all_goals go_meet
      all_goals (have q := O2.out; clear O2; simp only [twoP] at q)
      all_goals refine ⟨congrArg Value.bool ?_, rfl⟩
      all_goals simp_all
    case rest =>
      clear O2
      obtain ⟨rfl, rfl⟩ := hcut
      have q1 := Lib.hid (show fitsB 0 x = true by have := O3.out; simp [nlP] at this; exact this.1)
      have q2 := Lib.hid (show fitsB x 0 = true by have := O3.out; simp [nlP] at this; exact this.2)
      have q3 := Lib.hid (show fitsB 6 1 = false by decide +kernel)
      go_wp2_with fail
      refine (alive_any _ G.out).mono ?_
      rintro e w1 ⟨rfl, hb⟩
      have G1 := Lib.hid hb
      clear hb
      go_wp2_with fail
      refine (fits_any _ _ _ G1.out).mono ?_
      rintro e wx ⟨he, rfl⟩
      rw [q1.out] at he
      subst he
      go_wp2_with fail
      refine (fits_any _ _ _ G1.out).mono ?_
      rintro e wx ⟨he, rfl⟩
      rw [q2.out] at he
      subst he
      go_wp2_with fail
      refine (fits_any _ _ _ G1.out).mono ?_
      rintro e wx ⟨he, rfl⟩
      rw [q3.out] at he
      subst he
      go_wp2_with fail
      go_ret
      first | exact ⟨rfl, G1.out⟩ | exact ⟨ret_bool (by simp), G1.out⟩
set_option maxHeartbeats 4000000 in
set_option maxRecDepth 100000 in
theorem lattice_law {w0 : World} (a b c : Int) (w : World) (g : St w0 w) (a1 : -9223372036854775808 ≤ a) (a2 : a ≤ 9223372036854775807) (b1 : -9223372036854775808 ≤ b) (b2 : b ≤ 9223372036854775807) (c1 : -9223372036854775808 ≤ c) (c2 : c ≤ 9223372036854775807) : Calls Tryd.prog 4 #[.int .i64 a, .int .i64 b, .int .i64 c] w fun e w' => e = .returned (.bool true) ∧ St w0 w' := by
  have G := Lib.hid g
  clear g
  go_enter Tryd.func4, Tryd.ntmps4
  go_wp2_with fail
  refine (pick_any a _ a1 a2).mono ?_
  rintro e wx ⟨rfl, rfl⟩
  go_wp2_with fail
  refine (pick_any b _ b1 b2).mono ?_
  rintro e wx ⟨rfl, rfl⟩
  go_wp2_with fail
  refine (pick_any c _ c1 c2).mono ?_
  rintro e wx ⟨rfl, rfl⟩
  have rx := Lib.hid (pick_rt a a1)
  have ry := Lib.hid (pick_rt b b1)
  have rz := Lib.hid (pick_rt c c1)
  generalize pickI a = x at *
  generalize pickI b = y at *
  generalize pickI c = z at *
  have O1 := Lib.hid (all3 _ order_all x y z rx.out ry.out rz.out)
  have O2 := Lib.hid (all3 _ least_all x y z rx.out ry.out rz.out)
  have O3 := Lib.hid (all3 _ last_all x y z rx.out ry.out rz.out)
  go_wp2_with fail
  refine (join_any _ _ _ G.out).mono ?_
  rintro e wx ⟨rfl, rfl⟩
  have qj := Lib.hid (show rt (joinI x y) = true by have := O3.out; simp [lastP] at this; exact this.2)
  go_upto_region 5 with (fail)
  go_cut [11] (fun v wc => v = .bool true ∧ w = wc)
  case first =>
    have hd : Hid (x = y) ∨ (x == y) = false := by by_cases h : x = y; exact .inl h; exact .inr (beq_eq_false_iff_ne.2 h)
    rcases hd with hxy | hne
    all_goals (try (have h1 := hxy.out; clear hxy; subst h1))
    all_goals go_wp2_with (first | (go_at_call 14; refine (cov_any _ _ _ G.out).mono ?_; rintro e wx ⟨rfl, rfl⟩))
    all_goals go_meet
    all_goals (have q := O1.out; clear O1; simp only [orderP] at q)
    all_goals refine ⟨congrArg Value.bool ?_, rfl⟩
    all_goals simp_all
  case rest =>
    clear O1
    obtain ⟨rfl, rfl⟩ := hcut
    go_upto_region 6 with (fail)
    go_cut [12] (fun v wc => v = .bool true ∧ w = wc)
    case first =>
      go_wp2_with (first | (go_at_call 14; refine (cov_any _ _ _ G.out).mono ?_; rintro e wx ⟨rfl, rfl⟩))
      all_goals go_meet
      all_goals (have q := O2.out; clear O2; simp only [leastP] at q)
      all_goals refine ⟨congrArg Value.bool ?_, rfl⟩
      all_goals simp_all
    case rest =>
      clear O2
      obtain ⟨rfl, rfl⟩ := hcut
      have q1 := Lib.hid (show (joinI y x : Int) = joinI x y by have := O3.out; simp [lastP] at this; omega)
      have q2 := Lib.hid (show (joinI (joinI x y) z : Int) = joinI x (joinI y z) by have := O3.out; simp [lastP] at this; omega)
      have q3 := Lib.hid (show covB x y = decide ((joinI x y : Int) = x) by have := O3.out; simp [lastP] at this; exact this.1.2)
      clear O3
      go_wp2_with fail
      refine (alive_any _ G.out).mono ?_
      rintro e w1 ⟨rfl, hb⟩
      have G1 := Lib.hid hb
      clear hb
      go_wp2_with fail
      refine (join_any _ _ _ G1.out).mono ?_
      rintro e wx ⟨he, rfl⟩
      rw [q1.out] at he
      subst he
      go_wp2_with fail
      refine (join_any _ _ _ G1.out).mono ?_
      rintro e wx ⟨he, rfl⟩
      rw [q2.out] at he
      subst he
      go_wp2_with fail
      refine (join_any _ _ _ G1.out).mono ?_
      rintro e wx ⟨he, rfl⟩
      subst he
      go_wp2_with fail
      refine (join_any _ _ _ G1.out).mono ?_
      rintro e wx ⟨he, rfl⟩
      subst he
      go_wp2_with fail
      refine (cov_any _ _ _ G1.out).mono ?_
      rintro e wx ⟨he, rfl⟩
      rw [q3.out] at he
      subst he
      go_wp2_with fail
      go_ret
      first | exact ⟨rfl, G1.out⟩ | exact ⟨ret_bool (by rw [dec_beq]; simp), G1.out⟩
end Md
end Go.Proofs.YthgklkmkciljmaaDoor
