/- Texts of this claim, set one behind the other by a program: part 3. -/
import Derived.Test.YtlmkhpgnkpgbdaaDoorXValuePartsCardSaid1
import Derived.Test.YtlmkhpgnkpgbdaaDoorXValuePartsCardSaid2
import Derived.Lib.Hide
namespace Go.Proofs.YtlmkhpgnkpgbdaaDoor.PVLP
open Go.RowKit Go.Proofs.YtlmkhpgnkpgbdaaDoorW.PrintWords Go.Proofs.YtlmkhpgnkpgbdaaDoorW.PrintLast Go.Proofs.YtlmkhpgnkpgbdaaDoorW.PrintMore
attribute [local go_sem] max2_int min2_int max_two min_two max_three min_three max_four min_four   -- for this text's walks alone
set_option linter.unusedVariables false
set_option linter.unusedSimpArgs false

/-! ### stileref01_Like: function 14 -/
mutual
def stileref01_Like.l0 : Nat → ByteArray → ByteArray → Int → List Bool → Int → Option (Bool)
  | 0, _, _, _, _, _ => none
  | k + 1, x0, x1, x5, x6, x7 => if x7 ≥ 0 then (if 0 ≤ (wrap64 (x5 + 1)) then (if (wrap64 (x5 + 1) : Int).toNat ≤ 281474976710656 then (stileref01_Like.l1 k x0 x1 x5 x6 x7 (List.replicate (wrap64 (x5 + 1) : Int).toNat false) x5) else (none)) else (none)) else (if 0 < (x6.length : Int) then (some (rdOf false x6 0)) else (none))
def stileref01_Like.l1 : Nat → ByteArray → ByteArray → Int → List Bool → Int → List Bool → Int → Option (Bool)
  | 0, _, _, _, _, _, _, _ => none
  | k + 1, x0, x1, x5, x6, x7, x8, x9 => if x9 ≥ 0 then (if 0 ≤ x7 then (if x7 < (x1.size : Int) then (if (bt x1 x7) = 37 then (if 0 ≤ x9 then (if x9 < (x6.length : Int) then (if rdOf false x6 x9 = true then (if x9 < (x8.length : Int) then (stileref01_Like.l1 k x0 x1 x5 x6 x7 (x8.set (x9 : Int).toNat true) (wrap64 (x9 - 1))) else (none)) else (if x9 < x5 then (if 0 ≤ (wrap64 (x9 + 1)) then (if (wrap64 (x9 + 1)) < (x8.length : Int) then (if x9 < (x8.length : Int) then (stileref01_Like.l1 k x0 x1 x5 x6 x7 (x8.set (x9 : Int).toNat (rdOf false x8 (wrap64 (x9 + 1)))) (wrap64 (x9 - 1))) else (none)) else (none)) else (none)) else (if x9 < (x8.length : Int) then (stileref01_Like.l1 k x0 x1 x5 x6 x7 (x8.set (x9 : Int).toNat false) (wrap64 (x9 - 1))) else (none)))) else (none)) else (none)) else (if (bt x1 x7) = 95 then (if x9 < x5 then (if 0 ≤ (wrap64 (x9 + 1)) then (if (wrap64 (x9 + 1)) < (x6.length : Int) then (if 0 ≤ x9 then (if x9 < (x8.length : Int) then (stileref01_Like.l1 k x0 x1 x5 x6 x7 (x8.set (x9 : Int).toNat (rdOf false x6 (wrap64 (x9 + 1)))) (wrap64 (x9 - 1))) else (none)) else (none)) else (none)) else (none)) else (if 0 ≤ x9 then (if x9 < (x8.length : Int) then (stileref01_Like.l1 k x0 x1 x5 x6 x7 (x8.set (x9 : Int).toNat false) (wrap64 (x9 - 1))) else (none)) else (none))) else (if x9 < x5 then (if 0 ≤ x9 then (if x9 < (x0.size : Int) then (if (bt x0 x9) = (bt x1 x7) then (if 0 ≤ (wrap64 (x9 + 1)) then (if (wrap64 (x9 + 1)) < (x6.length : Int) then (if x9 < (x8.length : Int) then (stileref01_Like.l1 k x0 x1 x5 x6 x7 (x8.set (x9 : Int).toNat (rdOf false x6 (wrap64 (x9 + 1)))) (wrap64 (x9 - 1))) else (none)) else (none)) else (none)) else (if x9 < (x8.length : Int) then (stileref01_Like.l1 k x0 x1 x5 x6 x7 (x8.set (x9 : Int).toNat false) (wrap64 (x9 - 1))) else (none))) else (none)) else (none)) else (if 0 ≤ x9 then (if x9 < (x8.length : Int) then (stileref01_Like.l1 k x0 x1 x5 x6 x7 (x8.set (x9 : Int).toNat false) (wrap64 (x9 - 1))) else (none)) else (none))))) else (none)) else (none)) else (stileref01_Like.l0 k x0 x1 x5 x8 (wrap64 (x7 - 1)))
end
def stileref01_Like.f (k : Nat) (a0 : ByteArray) (a1 : ByteArray) : Option (Bool) := if 0 ≤ (wrap64 ((a0.size : Int) + 1)) then (if (wrap64 ((a0.size : Int) + 1) : Int).toNat ≤ 281474976710656 then ((some (List.replicate (wrap64 ((a0.size : Int) + 1) : Int).toNat false : List Bool)).bind fun y146 => (if 0 ≤ (a0.size : Int) then (if (a0.size : Int) < (y146.length : Int) then (stileref01_Like.l0 k a0 a1 (a0.size : Int) (y146.set ((a0.size : Int) : Int).toNat true) (wrap64 ((a1.size : Int) - 1))) else (none)) else (none))) else (none)) else (none)
theorem stileref01_Like.mono_l : ∀ k, (∀ y0 y1 y2 y3 y4, LeO (stileref01_Like.l0 k y0 y1 y2 y3 y4) (stileref01_Like.l0 (k + 1) y0 y1 y2 y3 y4)) ∧ (∀ y0 y1 y2 y3 y4 y5 y6, LeO (stileref01_Like.l1 k y0 y1 y2 y3 y4 y5 y6) (stileref01_Like.l1 (k + 1) y0 y1 y2 y3 y4 y5 y6))
  | 0 => ⟨fun _ _ _ _ _ r h => by simp [stileref01_Like.l0] at h, fun _ _ _ _ _ _ _ r h => by simp [stileref01_Like.l1] at h⟩
  | k + 1 => by
    obtain ⟨ih0, ih1⟩ := stileref01_Like.mono_l k
    refine ⟨?_, ?_⟩
    · intro y0 y1 y2 y3 y4
      unfold stileref01_Like.l0
      repeat' first
      | (with_reducible exact ih0 _ _ _ _ _)
      | (with_reducible exact ih1 _ _ _ _ _ _ _)
      | (with_reducible exact LeO.refl _)
      | (with_reducible exact LeO.none _)
      | (with_reducible refine LeO.ite ?_ ?_)
      | (with_reducible refine LeO.bind ?_ (fun _ => ?_))
      | exact ih0 _ _ _ _ _
      | exact ih1 _ _ _ _ _ _ _
      | exact LeO.none _
      | refine LeO.ite ?_ ?_
      | refine LeO.bind ?_ (fun _ => ?_)
    · intro y0 y1 y2 y3 y4 y5 y6
      unfold stileref01_Like.l1
      repeat' first
      | (with_reducible exact ih0 _ _ _ _ _)
      | (with_reducible exact ih1 _ _ _ _ _ _ _)
      | (with_reducible exact LeO.refl _)
      | (with_reducible exact LeO.none _)
      | (with_reducible refine LeO.ite ?_ ?_)
      | (with_reducible refine LeO.bind ?_ (fun _ => ?_))
      | exact ih0 _ _ _ _ _
      | exact ih1 _ _ _ _ _ _ _
      | exact LeO.none _
      | refine LeO.ite ?_ ?_
      | refine LeO.bind ?_ (fun _ => ?_)
theorem stileref01_Like.mono : ∀ a0 a1 k, LeO (stileref01_Like.f k a0 a1) (stileref01_Like.f (k + 1) a0 a1) := by
  intro a0 a1 k
  obtain ⟨ih0, ih1⟩ := stileref01_Like.mono_l k
  unfold stileref01_Like.f
  repeat' first
      | (with_reducible exact ih0 _ _ _ _ _)
      | (with_reducible exact ih1 _ _ _ _ _ _ _)
      | (with_reducible exact LeO.refl _)
      | (with_reducible exact LeO.none _)
      | (with_reducible refine LeO.ite ?_ ?_)
      | (with_reducible refine LeO.bind ?_ (fun _ => ?_))
      | exact ih0 _ _ _ _ _
      | exact ih1 _ _ _ _ _ _ _
      | exact LeO.none _
      | refine LeO.ite ?_ ?_
      | refine LeO.bind ?_ (fun _ => ?_)
def stileref01_Like.T12 : Bool × List (List Nat × List Nat) := (true, [([], []), ([], []), ([], []), ([], []), ([2, 3], [2, 3]), ([4], [4]), ([5], [5]), ([5], [5]), ([6, 7, 5], [5, 6, 7]), ([5], [5]), ([5], [5]), ([9, 10, 5], [5, 9, 10]), ([8, 11, 5], [5, 8, 11]), ([5, 12], [5, 12]), ([13, 5], [13]), ([14], [14]), ([14], [14]), ([16, 14], [14, 16]), ([15, 17, 14], [14, 15, 17]), ([18, 14], [14, 18]), ([14, 19], [14, 19]), ([0, 1, 0, 1, 2, 3, 4, 5, 6, 7, 8, 9, 10, 11, 12, 13, 14, 15, 16, 17, 18, 19, 20], [0, 1]), ([21, 20, 14, 0, 1, 2, 3, 4, 5, 6, 7, 8, 9, 10, 11, 12, 13, 14, 15, 16, 17, 18, 19, 20], [20, 21])])
def stileref01_Like.B12 : List Nat := [0, 0, 0, 0, 12, 28, 60, 60, 252, 60, 60, 1596, 4092, 8188, 16380, 32764, 32764, 98300, 262140, 524284, 1048572, 2097151, 4194303]
theorem stileref01_Like.tab12 : rtab .any (opsOf Tryd.f14 12) = stileref01_Like.T12 := by kernel_rfl
theorem stileref01_Like.bits12 : waitsOk stileref01_Like.T12.2 stileref01_Like.B12 = true := by kernel_rfl
set_option maxHeartbeats 8000000 in
set_option maxRecDepth 100000 in
theorem stileref01_Like.calls (k : Nat) (a0 : ByteArray) (a1 : ByteArray) (r : Bool) (w : World) (h : stileref01_Like.f k a0 a1 = some r) :
    Calls Tryd.prog 14 #[.string a0, .string a1] w fun e w' => e = .returned (.bool r) ∧ Below w.heap.size w w' := by
  have HB := Aside0.mk (Below.refl w.heap.size w)
  have H : (if 0 ≤ (wrap64 ((a0.size : Int) + 1)) then (if (wrap64 ((a0.size : Int) + 1) : Int).toNat ≤ 281474976710656 then ((some (List.replicate (wrap64 ((a0.size : Int) + 1) : Int).toNat false : List Bool)).bind fun y146 => (if 0 ≤ (a0.size : Int) then (if (a0.size : Int) < (y146.length : Int) then (stileref01_Like.l0 k a0 a1 (a0.size : Int) (y146.set ((a0.size : Int) : Int).toNat true) (wrap64 ((a1.size : Int) - 1))) else (none)) else (none))) else (none)) else (none)) = some r := h
  clear h
  obtain ⟨ji3, hji3⟩ : ∃ j_ : Int, (wrap64 ((a0.size : Int) + 1)) = j_ := ⟨_, rfl⟩
  replace H : (if 0 ≤ (ji3) then (if (ji3 : Int).toNat ≤ 281474976710656 then ((some (List.replicate (ji3 : Int).toNat false : List Bool)).bind fun y146 => (if 0 ≤ (a0.size : Int) then (if (a0.size : Int) < (y146.length : Int) then (stileref01_Like.l0 k a0 a1 (a0.size : Int) (y146.set ((a0.size : Int) : Int).toNat true) (wrap64 ((a1.size : Int) - 1))) else (none)) else (none))) else (none)) else (none)) = some r := by first | (rw [hji3] at H; exact H) | (simp only [hji3] at H ⊢; exact H)
  have hji3w : (IntKind.i64.wrap ((a0.size : Int) + 1)) = ji3 := (i64_w _).trans hji3
  by_cases c4 : 0 ≤ (ji3)
  · rw [if_pos c4] at H
    have c4b0 := eq_true c4
    have c4b1 : decide (0 ≤ (ji3)) = true := decide_eq_true c4
    clear c4
    by_cases c5 : (ji3 : Int).toNat ≤ 281474976710656
    · rw [if_pos c5] at H
      have c5b0 := eq_true c5
      have c5b1 : decide ((ji3 : Int).toNat ≤ 281474976710656) = true := decide_eq_true c5
      clear c5
      obtain ⟨y146, hy146⟩ : ∃ y_ : List Bool, y_ = (List.replicate (ji3 : Int).toNat false) := ⟨_, rfl⟩
      replace H : (if 0 ≤ (a0.size : Int) then (if (a0.size : Int) < (y146.length : Int) then (stileref01_Like.l0 k a0 a1 (a0.size : Int) (y146.set ((a0.size : Int) : Int).toNat true) (wrap64 ((a1.size : Int) - 1))) else (none)) else (none)) = some r := by first | (rw [hy146]; with_reducible exact H) | (have H2_ := (Option.bind_some _ _).symm.trans H; rw [hy146]; with_reducible exact H2_) | (have H2_ := (Option.bind_some _ _).symm.trans H; with_reducible exact H2_) | with_reducible exact H | (rw [hy146]; exact H) | exact H
      have Ny146 := Aside0.mk hy146
      clear hy146
      by_cases c6 : 0 ≤ (a0.size : Int)
      · rw [if_pos c6] at H
        have c6b0 : decide (0 ≤ (a0.size : Int)) = true := decide_eq_true c6
        have c6b1 : decide (0 ≤ a0.size) = true := decide_eq_true (by omega)
        clear c6
        by_cases c7 : (a0.size : Int) < (y146.length : Int)
        · rw [if_pos c7] at H
          have c7b0 : decide ((a0.size : Int) < (y146.length : Int)) = true := decide_eq_true c7
          have c7b1 : decide (a0.size < y146.length) = true := decide_eq_true (Int.ofNat_lt.mp c7)
          clear c7
          obtain ⟨y149, hy149⟩ : ∃ y_ : List Bool, y_ = (y146.set ((a0.size : Int) : Int).toNat true) := ⟨_, rfl⟩
          replace H : (stileref01_Like.l0 k a0 a1 (a0.size : Int) y149 (wrap64 ((a1.size : Int) - 1))) = some r := by first | (rw [hy149]; with_reducible exact H) | (have H2_ := (Option.bind_some _ _).symm.trans H; rw [hy149]; with_reducible exact H2_) | (have H2_ := (Option.bind_some _ _).symm.trans H; with_reducible exact H2_) | with_reducible exact H | (rw [hy149]; exact H) | exact H
          have Ny149 := Aside0.mk hy149
          clear hy149
          have H' := Aside0.mk H
          clear H
          go_enter Tryd.func14, Tryd.ntmps14
          go_wp2_with (first | ((with_reducible refine gate_dst (N := 14) rfl ?_); refine Kd.R_make Kd.bool _ 4 rfl (N := 14) rfl 57 _ _ rfl ji3 rfl rfl Tryd.underlying57 (.bool false) 1 info4 rfl (by decide) (by omega) false (ok := fun _ => True) (okp := fun _ => True) rfl (fun _ hk => hk) trivial (of_decide_eq_true (by first | (with_reducible assumption) | assumption)) (Nat.le_trans (Nat.mul_le_mul_right _ (of_decide_eq_true (by first | (with_reducible assumption) | assumption) : ji3.toNat ≤ 281474976710656)) (by omega)) (Below.refl _ _) (Nat.le_refl _) ?_; intro v147 w9 ho10 hb hg_ hnew_; clear hg_ hnew_; (first | rw [← Ny146.out] at ho10 | (simp only [Int.reduceToNat] at ho10; rw [← Ny146.out] at ho10)); have n0_ := Aside0.mk (Kd.R_lower ho10 (below_size (by repeat (first | (with_reducible first | exact HB.out | apply below_alloc | apply pw_below_drewN | apply below_drew1) | exact HB.out)))); have n1_ := Aside0.mk (below_step (by repeat (first | (with_reducible first | exact HB.out | apply below_alloc | apply pw_below_drewN | apply below_drew1) | exact HB.out)) hb); clear HB; have HO148 := n0_; have HB := n1_; clear n0_ n1_; clear hb ho10; have p8 : 0 ≤ ((a0.size : Int) : Int) := of_decide_eq_true (by first | (with_reducible assumption) | assumption); have q8 : ((a0.size : Int) : Int) < ((y146.length : Int) : Int) := of_decide_eq_true (by first | (with_reducible assumption) | assumption); obtain ⟨go8, co8, eo8, gb8, gl8, cl8, HG8⟩ := Kd.R_form HO148.out (by omega); (first | cases eo8 | (injection eo8 with ea_ en_ ec_; (first | subst ea_ | (injection ea_ with ea_; subst ea_)); subst ec_; clear en_)); have GB8 := Aside0.mk gb8; have GG8 := Aside0.mk HG8; clear gb8 gl8 HG8; obtain ⟨hx8_0, hf8_0⟩ := Kd.R_celln false HO148.out ((a0.size : Int) : Int) p8 q8; (try simp only [Int.toNat_natCast] at hx8_0 hf8_0); replace p8 := eq_true p8; replace q8 := eq_true q8; obtain ⟨hy11_, hz11_⟩ := Kd.R_celln false HO148.out ((a0.size : Int) : Int) (of_decide_eq_true (by first | (with_reducible assumption) | assumption)) (of_decide_eq_true (by first | (with_reducible assumption) | assumption)); have HP11 := Kd.R_putg HO148.out ((a0.size : Int) : Int) true) | ((with_reducible refine gate_store (t := 4) (p := 17) rfl ?_); refine store_event (t := 4) (p := 17) (v := ?vo_w12) (w1 := (w9.setCell ⟨go8, ((a0.size : Int) : Int).toNat, none⟩ (.bool true))) ?hg ?ho ?hn ?hr ?_; (case ho => rfl); (case hg => rfl); (case hn => rfl); (case hr => first | (go_simp; done) | (go_simp; rfl)); intro w12 hw; have hg : w9.grownBy w12 (some go8) := (by rw [hw]; exact HP11.2); have hp_ : Kd.R Kd.bool 4 w12 w.heap.size (fun _ => True) (.slice (some ⟨go8, 0, none⟩) y146.length co8) y149 := (by rw [hw, Ny149.out]; exact HP11.1); clear HP11; have n0_ := Aside0.mk (hp_); have n1_ := Aside0.mk ((by rw [hw]; exact below_set (HB.out) GB8.out : Below w.heap.size w w12)); clear HO148; clear HB; have HO148 := n0_; have HB := n1_; clear n0_ n1_; clear hg hw hp_))
          go_loopg [6, 7] k (fun kq v6 v7 w' => ∃ (x6_1 : List Bool) (x7_1 : Int), v7 = .int .i64 x7_1 ∧ Aside0 (stileref01_Like.l0 kq a0 a1 (a0.size : Int) x6_1 x7_1 = some r) ∧ Aside0 (kq ≤ k) ∧ Aside0 (Kd.R Kd.bool 4 w' w.heap.size (fun _ => True) v6 x6_1) ∧ Aside0 (Below w.heap.size w w'))
          case atStart => exact ⟨(y149), (wrap64 ((a1.size : Int) - 1)), (by first | rfl | (simp; done) | (simp [*]; done)), H', ⟨Nat.le_refl _⟩, ⟨by (with_reducible repeat (first | apply Kd.R_alloc | apply Kd.R_drewN | apply Kd.R_drew)); exact HO148.out⟩, ⟨by repeat (first | (with_reducible first | exact HB.out | apply below_alloc | apply pw_below_drewN | apply below_drew1) | exact HB.out)⟩⟩
          case round =>
            clear H'
            try clear c1
            try clear p2
            try clear c4
            try clear c4b0
            try clear c4b1
            try clear c5
            try clear c5b0
            try clear c5b1
            try clear c6
            try clear c6b0
            try clear c6b1
            try clear p6
            try clear c7
            try clear c7b0
            try clear c7b1
            try clear p8
            try clear q8
            try clear hx8
            try clear hf8
            try clear hx8_0
            try clear p8
            try clear q8
            obtain ⟨x6_1, x7_1, rfl, HA, HK1, HO_6, HB⟩ := hrel
            cases gk with
            | zero => exact absurd HA.out (by simp [stileref01_Like.l0])
            | succ k1 =>
              have H := HA.out
              clear HA
              simp only [stileref01_Like.l0] at H
              by_cases c13 : x7_1 ≥ 0
              · rw [if_pos c13] at H
                have c13b0 : decide (0 ≤ x7_1) = true := decide_eq_true c13
                clear c13
                obtain ⟨ji14, hji14⟩ : ∃ j_ : Int, (wrap64 ((a0.size : Int) + 1)) = j_ := ⟨_, rfl⟩
                replace H : (if 0 ≤ (ji14) then (if (ji14 : Int).toNat ≤ 281474976710656 then (stileref01_Like.l1 k1 a0 a1 (a0.size : Int) x6_1 x7_1 (List.replicate (ji14 : Int).toNat false) (a0.size : Int)) else (none)) else (none)) = some r := by first | (rw [hji14] at H; exact H) | (simp only [hji14] at H ⊢; exact H)
                have hji14w : (IntKind.i64.wrap ((a0.size : Int) + 1)) = ji14 := (i64_w _).trans hji14
                obtain rfl : ji14 = ji3 := hji14.symm.trans hji3
                by_cases c15 : 0 ≤ (ji14)
                · rw [if_pos c15] at H
                  have c15b0 := eq_true c15
                  have c15b1 : decide (0 ≤ (ji14)) = true := decide_eq_true c15
                  clear c15
                  by_cases c16 : (ji14 : Int).toNat ≤ 281474976710656
                  · rw [if_pos c16] at H
                    have c16b0 := eq_true c16
                    have c16b1 : decide ((ji14 : Int).toNat ≤ 281474976710656) = true := decide_eq_true c16
                    clear c16
                    obtain ⟨y151, hy151⟩ : ∃ y_ : List Bool, y_ = (List.replicate (ji14 : Int).toNat false) := ⟨_, rfl⟩
                    replace H : (stileref01_Like.l1 k1 a0 a1 (a0.size : Int) x6_1 x7_1 y151 (a0.size : Int)) = some r := by first | (rw [hy151]; with_reducible exact H) | (have H2_ := (Option.bind_some _ _).symm.trans H; rw [hy151]; with_reducible exact H2_) | (have H2_ := (Option.bind_some _ _).symm.trans H; with_reducible exact H2_) | with_reducible exact H | (rw [hy151]; exact H) | exact H
                    have Ny151 := Aside0.mk hy151
                    clear hy151
                    have H' := Aside0.mk H
                    clear H
                    go_wp2_with (first | ((with_reducible refine gate_dst (N := 27) rfl ?_); refine Kd.R_make Kd.bool _ 4 rfl (N := 27) rfl 57 _ _ rfl ji14 rfl rfl Tryd.underlying57 (.bool false) 1 info4 rfl (by decide) (by omega) false (ok := fun _ => True) (okp := fun _ => True) rfl (fun _ hk => hk) trivial (of_decide_eq_true (by first | (with_reducible assumption) | assumption)) (Nat.le_trans (Nat.mul_le_mul_right _ (of_decide_eq_true (by first | (with_reducible assumption) | assumption) : ji14.toNat ≤ 281474976710656)) (by omega)) (Below.refl _ _) (Nat.le_refl _) ?_; intro v152 w17 ho18 hb hg_ hnew_; clear hg_ hnew_; (first | rw [← Ny151.out] at ho18 | (simp only [Int.reduceToNat] at ho18; rw [← Ny151.out] at ho18)); have n0_ := Aside0.mk (Kd.R_elder' (by (with_reducible repeat (first | apply Kd.R_alloc | apply Kd.R_drewN | apply Kd.R_drew)); exact HO_6.out) (Kd.R_base ho18) hb); have n1_ := Aside0.mk (Kd.R_lower (Kd.R_new' ho18 (Kd.R_lt (by (with_reducible repeat (first | apply Kd.R_alloc | apply Kd.R_drewN | apply Kd.R_drew)); exact HO_6.out))) (below_size (by repeat (first | (with_reducible first | exact HB.out | apply below_alloc | apply pw_below_drewN | apply below_drew1) | exact HB.out)))); have n2_ := Aside0.mk (below_step (by repeat (first | (with_reducible first | exact HB.out | apply below_alloc | apply pw_below_drewN | apply below_drew1) | exact HB.out)) hb); clear HO_6; clear HB; have HO_6 := n0_; have HO153 := n1_; have HB := n2_; clear n0_ n1_ n2_; clear hb ho18))
                    go_loopg [9] k1 (fun kq v9 w' => ∃ (x8_2 : List Bool) (x9_2 : Int), v9 = .int .i64 x9_2 ∧ Aside0 (stileref01_Like.l1 kq a0 a1 (a0.size : Int) x6_1 x7_1 x8_2 x9_2 = some r) ∧ Aside0 (kq ≤ k1) ∧ Aside0 (Kd.R Kd.bool 4 w' w.heap.size (fun k_ => some k_ ≠ (v152 : Value).ownBlock) u6 x6_1) ∧ Aside0 (Kd.R Kd.bool 4 w' w.heap.size (fun k_ => some k_ ≠ (u6 : Value).ownBlock) v152 x8_2) ∧ Aside0 (Below w.heap.size w w'))
                    case atStart => exact ⟨(y151), ((a0.size : Int)), (by first | rfl | (simp; done) | (simp [*]; done)), H', ⟨Nat.le_refl _⟩, ⟨by (with_reducible repeat (first | apply Kd.R_alloc | apply Kd.R_drewN | apply Kd.R_drew)); exact Kd.R_mono HO_6.out (fun _ hk => hk.2)⟩, ⟨by (with_reducible repeat (first | apply Kd.R_alloc | apply Kd.R_drewN | apply Kd.R_drew)); exact Kd.R_mono HO153.out (fun _ hk => hk.2)⟩, ⟨by repeat (first | (with_reducible first | exact HB.out | apply below_alloc | apply pw_below_drewN | apply below_drew1) | exact HB.out)⟩⟩
                    case round =>
                      clear H'
                      try clear c1
                      try clear p2
                      try clear c4
                      try clear c4b0
                      try clear c4b1
                      try clear c5
                      try clear c5b0
                      try clear c5b1
                      try clear c6
                      try clear c6b0
                      try clear c6b1
                      try clear p6
                      try clear c7
                      try clear c7b0
                      try clear c7b1
                      try clear p8
                      try clear q8
                      try clear hx8
                      try clear hf8
                      try clear c13
                      try clear c13b0
                      try clear c14
                      try clear c15
                      try clear c15b0
                      try clear c15b1
                      try clear c16
                      try clear c16b0
                      try clear c16b1
                      try clear hx8_0
                      try clear p2
                      try clear p6
                      try clear p8
                      try clear q8
                      obtain ⟨x8_2, x9_2, rfl, HA, HK2, HO_6, HO_8, HB⟩ := hrel
                      cases gk with
                      | zero => exact absurd HA.out (by simp [stileref01_Like.l1])
                      | succ k2 =>
                        have H := HA.out
                        clear HA
                        simp only [stileref01_Like.l1] at H
                        by_cases c19 : x9_2 ≥ 0
                        · rw [if_pos c19] at H
                          have c19b0 : decide (0 ≤ x9_2) = true := decide_eq_true c19
                          clear c19
                          by_cases c20 : 0 ≤ x7_1
                          · rw [if_pos c20] at H
                            have c20b0 : decide (0 ≤ x7_1) = true := decide_eq_true c20
                            clear c20
                            by_cases c21 : x7_1 < (a1.size : Int)
                            · rw [if_pos c21] at H
                              have c21b0 : decide (x7_1 < (a1.size : Int)) = true := decide_eq_true c21
                              clear c21
                              by_cases c23 : (bt a1 x7_1) = 37
                              · rw [if_pos c23] at H
                                have c23b0 : ((bt a1 x7_1) == 37) = true := beq_iff_eq.mpr c23
                                have c23b1 : ((bt a1 x7_1) != 37) = false := bne_eq_false_iff_eq.mpr c23
                                clear c23
                                by_cases c24 : 0 ≤ x9_2
                                · rw [if_pos c24] at H
                                  have c24b0 : decide (0 ≤ x9_2) = true := decide_eq_true c24
                                  clear c24
                                  by_cases c25 : x9_2 < (x6_1.length : Int)
                                  · rw [if_pos c25] at H
                                    have c25b0 : decide (x9_2 < (x6_1.length : Int)) = true := decide_eq_true c25
                                    clear c25
                                    obtain ⟨bq26, hbq26⟩ : ∃ b_ : Bool, b_ = (rdOf false x6_1 x9_2) := ⟨_, rfl⟩
                                    replace H : (if bq26 = true then (if x9_2 < (x8_2.length : Int) then (stileref01_Like.l1 k2 a0 a1 (a0.size : Int) x6_1 x7_1 (x8_2.set (x9_2 : Int).toNat true) (wrap64 (x9_2 - 1))) else (none)) else (if x9_2 < (a0.size : Int) then (if 0 ≤ (wrap64 (x9_2 + 1)) then (if (wrap64 (x9_2 + 1)) < (x8_2.length : Int) then (if x9_2 < (x8_2.length : Int) then (stileref01_Like.l1 k2 a0 a1 (a0.size : Int) x6_1 x7_1 (x8_2.set (x9_2 : Int).toNat (rdOf false x8_2 (wrap64 (x9_2 + 1)))) (wrap64 (x9_2 - 1))) else (none)) else (none)) else (none)) else (if x9_2 < (x8_2.length : Int) then (stileref01_Like.l1 k2 a0 a1 (a0.size : Int) x6_1 x7_1 (x8_2.set (x9_2 : Int).toNat false) (wrap64 (x9_2 - 1))) else (none)))) = some r := by rw [← hbq26] at H; exact H
                                    have Nbq26 := Aside0.mk hbq26
                                    clear hbq26
                                    by_cases c27 : bq26 = true
                                    · subst c27
                                      have H1 : (if x9_2 < (x8_2.length : Int) then (stileref01_Like.l1 k2 a0 a1 (a0.size : Int) x6_1 x7_1 (x8_2.set (x9_2 : Int).toNat true) (wrap64 (x9_2 - 1))) else (none)) = some r := by rw [if_pos rfl] at H; exact H
                                      clear H
                                      have H := H1
                                      clear H1
                                      by_cases c28 : x9_2 < (x8_2.length : Int)
                                      · rw [if_pos c28] at H
                                        have c28b0 : decide (x9_2 < (x8_2.length : Int)) = true := decide_eq_true c28
                                        clear c28
                                        obtain ⟨y155, hy155⟩ : ∃ y_ : List Bool, y_ = (x8_2.set (x9_2 : Int).toNat true) := ⟨_, rfl⟩
                                        replace H : (stileref01_Like.l1 k2 a0 a1 (a0.size : Int) x6_1 x7_1 y155 (wrap64 (x9_2 - 1))) = some r := by first | (rw [hy155]; with_reducible exact H) | (have H2_ := (Option.bind_some _ _).symm.trans H; rw [hy155]; with_reducible exact H2_) | (have H2_ := (Option.bind_some _ _).symm.trans H; with_reducible exact H2_) | with_reducible exact H | (rw [hy155]; exact H) | exact H
                                        have Ny155 := Aside0.mk hy155
                                        clear hy155
                                        have H' := Aside0.mk H
                                        clear H
                                        have p22 : 0 ≤ (x7_1 : Int) := of_decide_eq_true (by first | (with_reducible assumption) | assumption)
                                        have q22 : x7_1 < (a1.size : Int) := of_decide_eq_true (by first | (with_reducible assumption) | assumption)
                                        have hx22 := bt_at a1 x7_1
                                        replace p22 := eq_true p22
                                        replace q22 := eq_true q22
                                        obtain ⟨Ao30, co30, eo30⟩ := Kd.R_slice HO_6.out
                                        subst eo30
                                        have p154 : 0 ≤ (x9_2 : Int) := of_decide_eq_true (by first | (with_reducible assumption) | assumption)
                                        have q154 : x9_2 < (x6_1.length : Int) := of_decide_eq_true (by first | (with_reducible assumption) | assumption)
                                        obtain ⟨ad154, e154, hx154_0⟩ := Kd.at_bool (Kd.R_reads' HO_6.out).2.2 x9_2 p154 q154
                                        (try rw [← Nbq26.out] at hx154_0)
                                        cases e154
                                        replace p154 := eq_true p154
                                        replace q154 := eq_true q154
                                        have p29 : 0 ≤ (x9_2 : Int) := of_decide_eq_true (by first | (with_reducible assumption) | assumption)
                                        have q29 : (x9_2 : Int) < ((x8_2.length : Int) : Int) := of_decide_eq_true (by first | (with_reducible assumption) | assumption)
                                        obtain ⟨go29, co29, eo29, gb29, gl29, cl29, HG29⟩ := Kd.R_form HO_8.out (by omega)
                                        (first | cases eo29 | (injection eo29 with ea_ en_ ec_; (first | subst ea_ | (injection ea_ with ea_; subst ea_)); subst ec_; clear en_))
                                        have GB29 := Aside0.mk gb29
                                        have GG29 := Aside0.mk HG29
                                        clear gb29 gl29 HG29
                                        obtain ⟨hx29_0, hf29_0⟩ := Kd.R_celln false HO_8.out (x9_2 : Int) p29 q29
                                        replace p29 := eq_true p29
                                        replace q29 := eq_true q29
                                        have HP31 := Kd.R_putg HO_8.out (x9_2 : Int) true
                                        go_wp2_with (first | ((with_reducible refine gate_store (t := 4) (p := 78) rfl ?_); (try simp only [Int.toNat_natCast] at hx29_0 hf29_0); refine store_event (t := 4) (p := 78) (v := ?vo_w32) (w1 := (wr.setCell ⟨go29, (x9_2 : Int).toNat, none⟩ (.bool true))) ?hg ?ho ?hn ?hr ?_; (case ho => rfl); (case hg => rfl); (case hn => rfl); (case hr => first | (go_simp; done) | (go_simp; rfl)); intro w32 hw; have hg : wr.grownBy w32 (some go29) := (by rw [hw]; exact HP31.2); have hp_ : Kd.R Kd.bool 4 w32 w.heap.size (fun k_ => some k_ ≠ (.slice (some ad154) x6_1.length co30 : Value).ownBlock) (.slice (some ⟨go29, 0, none⟩) x8_2.length co29) y155 := (by rw [hw, Ny155.out]; exact HP31.1); clear HP31; have n0_ := Aside0.mk (Kd.R_after (v := (.slice (some ⟨go29, 0, none⟩) x8_2.length co29)) (v1 := (.slice (some ⟨go29, 0, none⟩) x8_2.length co29)) (ok := (fun _ => True)) (by (with_reducible repeat (first | apply Kd.R_alloc | apply Kd.R_drewN | apply Kd.R_drew)); exact Kd.R_mono HO_6.out (fun _ hk => ⟨trivial, hk⟩)) hg (.inl rfl)); have n1_ := Aside0.mk (hp_); have n2_ := Aside0.mk ((by rw [hw]; exact below_set (HB.out) GB29.out : Below w.heap.size w w32)); clear HO_6; clear HO_8; clear HB; have HO_6 := n0_; have HO_8 := n1_; have HB := n2_; clear n0_ n1_ n2_; clear hg hw hp_))
                                        go_roundg k2
                                        case measure => have := HK1.out; have := HK2.out; omega
                                        case rel => exact ⟨(y155), (wrap64 (x9_2 - 1)), (by first | rfl | (simp; done) | (simp [*]; done)), H', ⟨by have := HK1.out; have := HK2.out; omega⟩, ⟨by (with_reducible repeat (first | apply Kd.R_alloc | apply Kd.R_drewN | apply Kd.R_drew)); exact Kd.R_mono HO_6.out (fun _ hk => hk.2)⟩, ⟨by (with_reducible repeat (first | apply Kd.R_alloc | apply Kd.R_drewN | apply Kd.R_drew)); exact HO_8.out⟩, ⟨by repeat (first | (with_reducible first | exact HB.out | apply below_alloc | apply pw_below_drewN | apply below_drew1) | exact HB.out)⟩⟩
                                      · rw [if_neg c28] at H
                                        exact absurd H (by simp)
                                    · replace c27 := Bool.eq_false_iff.mpr c27
                                      subst c27
                                      have H1 : (if x9_2 < (a0.size : Int) then (if 0 ≤ (wrap64 (x9_2 + 1)) then (if (wrap64 (x9_2 + 1)) < (x8_2.length : Int) then (if x9_2 < (x8_2.length : Int) then (stileref01_Like.l1 k2 a0 a1 (a0.size : Int) x6_1 x7_1 (x8_2.set (x9_2 : Int).toNat (rdOf false x8_2 (wrap64 (x9_2 + 1)))) (wrap64 (x9_2 - 1))) else (none)) else (none)) else (none)) else (if x9_2 < (x8_2.length : Int) then (stileref01_Like.l1 k2 a0 a1 (a0.size : Int) x6_1 x7_1 (x8_2.set (x9_2 : Int).toNat false) (wrap64 (x9_2 - 1))) else (none))) = some r := by rw [if_neg (show ¬ (false = true) by decide)] at H; exact H
                                      clear H
                                      have H := H1
                                      clear H1
                                      by_cases c33 : x9_2 < (a0.size : Int)
                                      · rw [if_pos c33] at H
                                        have c33b0 : decide (x9_2 < (a0.size : Int)) = true := decide_eq_true c33
                                        clear c33
                                        obtain ⟨ji34, hji34⟩ : ∃ j_ : Int, (wrap64 (x9_2 + 1)) = j_ := ⟨_, rfl⟩
                                        replace H : (if 0 ≤ (ji34) then (if (ji34) < (x8_2.length : Int) then (if x9_2 < (x8_2.length : Int) then (stileref01_Like.l1 k2 a0 a1 (a0.size : Int) x6_1 x7_1 (x8_2.set (x9_2 : Int).toNat (rdOf false x8_2 (ji34))) (wrap64 (x9_2 - 1))) else (none)) else (none)) else (none)) = some r := by first | (rw [hji34] at H; exact H) | (simp only [hji34] at H ⊢; exact H)
                                        have hji34w : (IntKind.i64.wrap (x9_2 + 1)) = ji34 := (i64_w _).trans hji34
                                        by_cases c35 : 0 ≤ (ji34)
                                        · rw [if_pos c35] at H
                                          have c35b0 : decide (0 ≤ (ji34)) = true := decide_eq_true c35
                                          clear c35
                                          by_cases c36 : (ji34) < (x8_2.length : Int)
                                          · rw [if_pos c36] at H
                                            have c36b0 : decide ((ji34) < (x8_2.length : Int)) = true := decide_eq_true c36
                                            clear c36
                                            by_cases c37 : x9_2 < (x8_2.length : Int)
                                            · rw [if_pos c37] at H
                                              have c37b0 : decide (x9_2 < (x8_2.length : Int)) = true := decide_eq_true c37
                                              clear c37
                                              obtain ⟨y157, hy157⟩ : ∃ y_ : List Bool, y_ = (x8_2.set (x9_2 : Int).toNat (rdOf false x8_2 (ji34))) := ⟨_, rfl⟩
                                              replace H : (stileref01_Like.l1 k2 a0 a1 (a0.size : Int) x6_1 x7_1 y157 (wrap64 (x9_2 - 1))) = some r := by first | (rw [hy157]; with_reducible exact H) | (have H2_ := (Option.bind_some _ _).symm.trans H; rw [hy157]; with_reducible exact H2_) | (have H2_ := (Option.bind_some _ _).symm.trans H; with_reducible exact H2_) | with_reducible exact H | (rw [hy157]; exact H) | exact H
                                              have Ny157 := Aside0.mk hy157
                                              clear hy157
                                              have H' := Aside0.mk H
                                              clear H
                                              have p22 : 0 ≤ (x7_1 : Int) := of_decide_eq_true (by first | (with_reducible assumption) | assumption)
                                              have q22 : x7_1 < (a1.size : Int) := of_decide_eq_true (by first | (with_reducible assumption) | assumption)
                                              have hx22 := bt_at a1 x7_1
                                              replace p22 := eq_true p22
                                              replace q22 := eq_true q22
                                              obtain ⟨Ao39, co39, eo39⟩ := Kd.R_slice HO_6.out
                                              subst eo39
                                              have p154 : 0 ≤ (x9_2 : Int) := of_decide_eq_true (by first | (with_reducible assumption) | assumption)
                                              have q154 : x9_2 < (x6_1.length : Int) := of_decide_eq_true (by first | (with_reducible assumption) | assumption)
                                              obtain ⟨ad154, e154, hx154_0⟩ := Kd.at_bool (Kd.R_reads' HO_6.out).2.2 x9_2 p154 q154
                                              (try rw [← Nbq26.out] at hx154_0)
                                              cases e154
                                              replace p154 := eq_true p154
                                              replace q154 := eq_true q154
                                              obtain ⟨Ao40, co40, eo40⟩ := Kd.R_slice HO_8.out
                                              subst eo40
                                              have p156 : 0 ≤ ((ji34) : Int) := of_decide_eq_true (by first | (with_reducible assumption) | assumption)
                                              have q156 : (ji34) < (x8_2.length : Int) := of_decide_eq_true (by first | (with_reducible assumption) | assumption)
                                              obtain ⟨ad156, e156, hx156_0⟩ := Kd.at_bool (Kd.R_reads' HO_8.out).2.2 (ji34) p156 q156
                                              (try rw [← Nbq26.out] at hx156_0)
                                              cases e156
                                              replace p156 := eq_true p156
                                              replace q156 := eq_true q156
                                              have p38 : 0 ≤ (x9_2 : Int) := of_decide_eq_true (by first | (with_reducible assumption) | assumption)
                                              have q38 : (x9_2 : Int) < ((x8_2.length : Int) : Int) := of_decide_eq_true (by first | (with_reducible assumption) | assumption)
                                              obtain ⟨go38, co38, eo38, gb38, gl38, cl38, HG38⟩ := Kd.R_form HO_8.out (by omega)
                                              (first | cases eo38 | (injection eo38 with ea_ en_ ec_; (first | subst ea_ | (injection ea_ with ea_; subst ea_)); subst ec_; clear en_))
                                              have GB38 := Aside0.mk gb38
                                              have GG38 := Aside0.mk HG38
                                              clear gb38 gl38 HG38
                                              (first | simp only [add_plain] at hx156_0 | skip)
                                              obtain ⟨hx38_0, hf38_0⟩ := Kd.R_celln false HO_8.out (x9_2 : Int) p38 q38
                                              replace p38 := eq_true p38
                                              replace q38 := eq_true q38
                                              have HP41 := Kd.R_putg HO_8.out (x9_2 : Int) (rdOf false x8_2 (ji34))
                                              go_wp2_with (first | ((with_reducible refine gate_store (t := 4) (p := 78) rfl ?_); (try simp only [Int.toNat_natCast] at hx38_0 hf38_0); refine store_event (t := 4) (p := 78) (v := ?vo_w42) (w1 := (wr.setCell ⟨go38, (x9_2 : Int).toNat, none⟩ (.bool (rdOf false x8_2 (ji34))))) ?hg ?ho ?hn ?hr ?_; (case ho => rfl); (case hg => rfl); (case hn => rfl); (case hr => first | (go_simp; done) | (go_simp; rfl)); intro w42 hw; have hg : wr.grownBy w42 (some go38) := (by rw [hw]; exact HP41.2); have hp_ : Kd.R Kd.bool 4 w42 w.heap.size (fun k_ => some k_ ≠ (.slice (some ad154) x6_1.length co39 : Value).ownBlock) (.slice (some ⟨go38, 0, none⟩) x8_2.length co40) y157 := (by rw [hw, Ny157.out]; exact HP41.1); clear HP41; have n0_ := Aside0.mk (Kd.R_after (v := (.slice (some ⟨go38, 0, none⟩) x8_2.length co40)) (v1 := (.slice (some ⟨go38, 0, none⟩) x8_2.length co40)) (ok := (fun _ => True)) (by (with_reducible repeat (first | apply Kd.R_alloc | apply Kd.R_drewN | apply Kd.R_drew)); exact Kd.R_mono HO_6.out (fun _ hk => ⟨trivial, hk⟩)) hg (.inl rfl)); have n1_ := Aside0.mk (hp_); have n2_ := Aside0.mk ((by rw [hw]; exact below_set (HB.out) GB38.out : Below w.heap.size w w42)); clear HO_6; clear HO_8; clear HB; have HO_6 := n0_; have HO_8 := n1_; have HB := n2_; clear n0_ n1_ n2_; clear hg hw hp_))
                                              go_roundg k2
                                              case measure => have := HK1.out; have := HK2.out; omega
                                              case rel => exact ⟨(y157), (wrap64 (x9_2 - 1)), (by first | rfl | (simp; done) | (simp [*]; done)), H', ⟨by have := HK1.out; have := HK2.out; omega⟩, ⟨by (with_reducible repeat (first | apply Kd.R_alloc | apply Kd.R_drewN | apply Kd.R_drew)); exact Kd.R_mono HO_6.out (fun _ hk => hk.2)⟩, ⟨by (with_reducible repeat (first | apply Kd.R_alloc | apply Kd.R_drewN | apply Kd.R_drew)); exact HO_8.out⟩, ⟨by repeat (first | (with_reducible first | exact HB.out | apply below_alloc | apply pw_below_drewN | apply below_drew1) | exact HB.out)⟩⟩
                                            · rw [if_neg c37] at H
                                              exact absurd H (by simp)
                                          · rw [if_neg c36] at H
                                            exact absurd H (by simp)
                                        · rw [if_neg c35] at H
                                          exact absurd H (by simp)
                                      · rw [if_neg c33] at H
                                        have c33b0 : decide (x9_2 < (a0.size : Int)) = false := decide_eq_false c33
                                        clear c33
                                        by_cases c43 : x9_2 < (x8_2.length : Int)
                                        · rw [if_pos c43] at H
                                          have c43b0 : decide (x9_2 < (x8_2.length : Int)) = true := decide_eq_true c43
                                          clear c43
                                          obtain ⟨y158, hy158⟩ : ∃ y_ : List Bool, y_ = (x8_2.set (x9_2 : Int).toNat false) := ⟨_, rfl⟩
                                          replace H : (stileref01_Like.l1 k2 a0 a1 (a0.size : Int) x6_1 x7_1 y158 (wrap64 (x9_2 - 1))) = some r := by first | (rw [hy158]; with_reducible exact H) | (have H2_ := (Option.bind_some _ _).symm.trans H; rw [hy158]; with_reducible exact H2_) | (have H2_ := (Option.bind_some _ _).symm.trans H; with_reducible exact H2_) | with_reducible exact H | (rw [hy158]; exact H) | exact H
                                          have Ny158 := Aside0.mk hy158
                                          clear hy158
                                          have H' := Aside0.mk H
                                          clear H
                                          have p22 : 0 ≤ (x7_1 : Int) := of_decide_eq_true (by first | (with_reducible assumption) | assumption)
                                          have q22 : x7_1 < (a1.size : Int) := of_decide_eq_true (by first | (with_reducible assumption) | assumption)
                                          have hx22 := bt_at a1 x7_1
                                          replace p22 := eq_true p22
                                          replace q22 := eq_true q22
                                          obtain ⟨Ao45, co45, eo45⟩ := Kd.R_slice HO_6.out
                                          subst eo45
                                          have p154 : 0 ≤ (x9_2 : Int) := of_decide_eq_true (by first | (with_reducible assumption) | assumption)
                                          have q154 : x9_2 < (x6_1.length : Int) := of_decide_eq_true (by first | (with_reducible assumption) | assumption)
                                          obtain ⟨ad154, e154, hx154_0⟩ := Kd.at_bool (Kd.R_reads' HO_6.out).2.2 x9_2 p154 q154
                                          (try rw [← Nbq26.out] at hx154_0)
                                          cases e154
                                          replace p154 := eq_true p154
                                          replace q154 := eq_true q154
                                          have p44 : 0 ≤ (x9_2 : Int) := of_decide_eq_true (by first | (with_reducible assumption) | assumption)
                                          have q44 : (x9_2 : Int) < ((x8_2.length : Int) : Int) := of_decide_eq_true (by first | (with_reducible assumption) | assumption)
                                          obtain ⟨go44, co44, eo44, gb44, gl44, cl44, HG44⟩ := Kd.R_form HO_8.out (by omega)
                                          (first | cases eo44 | (injection eo44 with ea_ en_ ec_; (first | subst ea_ | (injection ea_ with ea_; subst ea_)); subst ec_; clear en_))
                                          have GB44 := Aside0.mk gb44
                                          have GG44 := Aside0.mk HG44
                                          clear gb44 gl44 HG44
                                          obtain ⟨hx44_0, hf44_0⟩ := Kd.R_celln false HO_8.out (x9_2 : Int) p44 q44
                                          replace p44 := eq_true p44
                                          replace q44 := eq_true q44
                                          have HP46 := Kd.R_putg HO_8.out (x9_2 : Int) false
                                          go_wp2_with (first | ((with_reducible refine gate_store (t := 4) (p := 78) rfl ?_); (try simp only [Int.toNat_natCast] at hx44_0 hf44_0); refine store_event (t := 4) (p := 78) (v := ?vo_w47) (w1 := (wr.setCell ⟨go44, (x9_2 : Int).toNat, none⟩ (.bool false))) ?hg ?ho ?hn ?hr ?_; (case ho => rfl); (case hg => rfl); (case hn => rfl); (case hr => first | (go_simp; done) | (go_simp; rfl)); intro w47 hw; have hg : wr.grownBy w47 (some go44) := (by rw [hw]; exact HP46.2); have hp_ : Kd.R Kd.bool 4 w47 w.heap.size (fun k_ => some k_ ≠ (.slice (some ad154) x6_1.length co45 : Value).ownBlock) (.slice (some ⟨go44, 0, none⟩) x8_2.length co44) y158 := (by rw [hw, Ny158.out]; exact HP46.1); clear HP46; have n0_ := Aside0.mk (Kd.R_after (v := (.slice (some ⟨go44, 0, none⟩) x8_2.length co44)) (v1 := (.slice (some ⟨go44, 0, none⟩) x8_2.length co44)) (ok := (fun _ => True)) (by (with_reducible repeat (first | apply Kd.R_alloc | apply Kd.R_drewN | apply Kd.R_drew)); exact Kd.R_mono HO_6.out (fun _ hk => ⟨trivial, hk⟩)) hg (.inl rfl)); have n1_ := Aside0.mk (hp_); have n2_ := Aside0.mk ((by rw [hw]; exact below_set (HB.out) GB44.out : Below w.heap.size w w47)); clear HO_6; clear HO_8; clear HB; have HO_6 := n0_; have HO_8 := n1_; have HB := n2_; clear n0_ n1_ n2_; clear hg hw hp_))
                                          go_roundg k2
                                          case measure => have := HK1.out; have := HK2.out; omega
                                          case rel => exact ⟨(y158), (wrap64 (x9_2 - 1)), (by first | rfl | (simp; done) | (simp [*]; done)), H', ⟨by have := HK1.out; have := HK2.out; omega⟩, ⟨by (with_reducible repeat (first | apply Kd.R_alloc | apply Kd.R_drewN | apply Kd.R_drew)); exact Kd.R_mono HO_6.out (fun _ hk => hk.2)⟩, ⟨by (with_reducible repeat (first | apply Kd.R_alloc | apply Kd.R_drewN | apply Kd.R_drew)); exact HO_8.out⟩, ⟨by repeat (first | (with_reducible first | exact HB.out | apply below_alloc | apply pw_below_drewN | apply below_drew1) | exact HB.out)⟩⟩
                                        · rw [if_neg c43] at H
                                          exact absurd H (by simp)
                                  · rw [if_neg c25] at H
                                    exact absurd H (by simp)
                                · rw [if_neg c24] at H
                                  exact absurd H (by simp)
                              · rw [if_neg c23] at H
                                have c23b0 : ((bt a1 x7_1) == 37) = false := beq_eq_false_iff_ne.mpr c23
                                have c23b1 : ((bt a1 x7_1) != 37) = true := bne_iff_ne.mpr c23
                                by_cases c48 : (bt a1 x7_1) = 95
                                · rw [if_pos c48] at H
                                  have c48b0 : ((bt a1 x7_1) == 95) = true := beq_iff_eq.mpr c48
                                  have c48b1 : ((bt a1 x7_1) != 95) = false := bne_eq_false_iff_eq.mpr c48
                                  clear c48
                                  by_cases c49 : x9_2 < (a0.size : Int)
                                  · rw [if_pos c49] at H
                                    have c49b0 : decide (x9_2 < (a0.size : Int)) = true := decide_eq_true c49
                                    clear c49
                                    obtain ⟨ji50, hji50⟩ : ∃ j_ : Int, (wrap64 (x9_2 + 1)) = j_ := ⟨_, rfl⟩
                                    replace H : (if 0 ≤ (ji50) then (if (ji50) < (x6_1.length : Int) then (if 0 ≤ x9_2 then (if x9_2 < (x8_2.length : Int) then (stileref01_Like.l1 k2 a0 a1 (a0.size : Int) x6_1 x7_1 (x8_2.set (x9_2 : Int).toNat (rdOf false x6_1 (ji50))) (wrap64 (x9_2 - 1))) else (none)) else (none)) else (none)) else (none)) = some r := by first | (rw [hji50] at H; exact H) | (simp only [hji50] at H ⊢; exact H)
                                    have hji50w : (IntKind.i64.wrap (x9_2 + 1)) = ji50 := (i64_w _).trans hji50
                                    by_cases c51 : 0 ≤ (ji50)
                                    · rw [if_pos c51] at H
                                      have c51b0 : decide (0 ≤ (ji50)) = true := decide_eq_true c51
                                      clear c51
                                      by_cases c52 : (ji50) < (x6_1.length : Int)
                                      · rw [if_pos c52] at H
                                        have c52b0 : decide ((ji50) < (x6_1.length : Int)) = true := decide_eq_true c52
                                        clear c52
                                        by_cases c53 : 0 ≤ x9_2
                                        · rw [if_pos c53] at H
                                          have c53b0 : decide (0 ≤ x9_2) = true := decide_eq_true c53
                                          clear c53
                                          by_cases c54 : x9_2 < (x8_2.length : Int)
                                          · rw [if_pos c54] at H
                                            have c54b0 : decide (x9_2 < (x8_2.length : Int)) = true := decide_eq_true c54
                                            clear c54
                                            obtain ⟨y160, hy160⟩ : ∃ y_ : List Bool, y_ = (x8_2.set (x9_2 : Int).toNat (rdOf false x6_1 (ji50))) := ⟨_, rfl⟩
                                            replace H : (stileref01_Like.l1 k2 a0 a1 (a0.size : Int) x6_1 x7_1 y160 (wrap64 (x9_2 - 1))) = some r := by first | (rw [hy160]; with_reducible exact H) | (have H2_ := (Option.bind_some _ _).symm.trans H; rw [hy160]; with_reducible exact H2_) | (have H2_ := (Option.bind_some _ _).symm.trans H; with_reducible exact H2_) | with_reducible exact H | (rw [hy160]; exact H) | exact H
                                            have Ny160 := Aside0.mk hy160
                                            clear hy160
                                            have H' := Aside0.mk H
                                            clear H
                                            have p22 : 0 ≤ (x7_1 : Int) := of_decide_eq_true (by first | (with_reducible assumption) | assumption)
                                            have q22 : x7_1 < (a1.size : Int) := of_decide_eq_true (by first | (with_reducible assumption) | assumption)
                                            have hx22 := bt_at a1 x7_1
                                            replace p22 := eq_true p22
                                            replace q22 := eq_true q22
                                            obtain ⟨Ao56, co56, eo56⟩ := Kd.R_slice HO_6.out
                                            subst eo56
                                            have p159 : 0 ≤ ((ji50) : Int) := of_decide_eq_true (by first | (with_reducible assumption) | assumption)
                                            have q159 : (ji50) < (x6_1.length : Int) := of_decide_eq_true (by first | (with_reducible assumption) | assumption)
                                            obtain ⟨ad159, e159, hx159_0⟩ := Kd.at_bool (Kd.R_reads' HO_6.out).2.2 (ji50) p159 q159
                                            cases e159
                                            replace p159 := eq_true p159
                                            replace q159 := eq_true q159
                                            have p55 : 0 ≤ (x9_2 : Int) := of_decide_eq_true (by first | (with_reducible assumption) | assumption)
                                            have q55 : (x9_2 : Int) < ((x8_2.length : Int) : Int) := of_decide_eq_true (by first | (with_reducible assumption) | assumption)
                                            obtain ⟨go55, co55, eo55, gb55, gl55, cl55, HG55⟩ := Kd.R_form HO_8.out (by omega)
                                            (first | cases eo55 | (injection eo55 with ea_ en_ ec_; (first | subst ea_ | (injection ea_ with ea_; subst ea_)); subst ec_; clear en_))
                                            have GB55 := Aside0.mk gb55
                                            have GG55 := Aside0.mk HG55
                                            clear gb55 gl55 HG55
                                            obtain ⟨hx55_0, hf55_0⟩ := Kd.R_celln false HO_8.out (x9_2 : Int) p55 q55
                                            replace p55 := eq_true p55
                                            replace q55 := eq_true q55
                                            have HP57 := Kd.R_putg HO_8.out (x9_2 : Int) (rdOf false x6_1 (ji50))
                                            go_wp2_with (first | ((with_reducible refine gate_store (t := 4) (p := 93) rfl ?_); (try simp only [Int.toNat_natCast] at hx55_0 hf55_0); refine store_event (t := 4) (p := 93) (v := ?vo_w58) (w1 := (wr.setCell ⟨go55, (x9_2 : Int).toNat, none⟩ (.bool (rdOf false x6_1 (ji50))))) ?hg ?ho ?hn ?hr ?_; (case ho => rfl); (case hg => rfl); (case hn => rfl); (case hr => first | (go_simp; done) | (go_simp; rfl)); intro w58 hw; have hg : wr.grownBy w58 (some go55) := (by rw [hw]; exact HP57.2); have hp_ : Kd.R Kd.bool 4 w58 w.heap.size (fun k_ => some k_ ≠ (.slice (some ad159) x6_1.length co56 : Value).ownBlock) (.slice (some ⟨go55, 0, none⟩) x8_2.length co55) y160 := (by rw [hw, Ny160.out]; exact HP57.1); clear HP57; have n0_ := Aside0.mk (Kd.R_after (v := (.slice (some ⟨go55, 0, none⟩) x8_2.length co55)) (v1 := (.slice (some ⟨go55, 0, none⟩) x8_2.length co55)) (ok := (fun _ => True)) (by (with_reducible repeat (first | apply Kd.R_alloc | apply Kd.R_drewN | apply Kd.R_drew)); exact Kd.R_mono HO_6.out (fun _ hk => ⟨trivial, hk⟩)) hg (.inl rfl)); have n1_ := Aside0.mk (hp_); have n2_ := Aside0.mk ((by rw [hw]; exact below_set (HB.out) GB55.out : Below w.heap.size w w58)); clear HO_6; clear HO_8; clear HB; have HO_6 := n0_; have HO_8 := n1_; have HB := n2_; clear n0_ n1_ n2_; clear hg hw hp_))
                                            go_roundg k2
                                            case measure => have := HK1.out; have := HK2.out; omega
                                            case rel => exact ⟨(y160), (wrap64 (x9_2 - 1)), (by first | rfl | (simp; done) | (simp [*]; done)), H', ⟨by have := HK1.out; have := HK2.out; omega⟩, ⟨by (with_reducible repeat (first | apply Kd.R_alloc | apply Kd.R_drewN | apply Kd.R_drew)); exact Kd.R_mono HO_6.out (fun _ hk => hk.2)⟩, ⟨by (with_reducible repeat (first | apply Kd.R_alloc | apply Kd.R_drewN | apply Kd.R_drew)); exact HO_8.out⟩, ⟨by repeat (first | (with_reducible first | exact HB.out | apply below_alloc | apply pw_below_drewN | apply below_drew1) | exact HB.out)⟩⟩
                                          · rw [if_neg c54] at H
                                            exact absurd H (by simp)
                                        · rw [if_neg c53] at H
                                          exact absurd H (by simp)
                                      · rw [if_neg c52] at H
                                        exact absurd H (by simp)
                                    · rw [if_neg c51] at H
                                      exact absurd H (by simp)
                                  · rw [if_neg c49] at H
                                    have c49b0 : decide (x9_2 < (a0.size : Int)) = false := decide_eq_false c49
                                    clear c49
                                    by_cases c59 : 0 ≤ x9_2
                                    · rw [if_pos c59] at H
                                      have c59b0 : decide (0 ≤ x9_2) = true := decide_eq_true c59
                                      clear c59
                                      by_cases c60 : x9_2 < (x8_2.length : Int)
                                      · rw [if_pos c60] at H
                                        have c60b0 : decide (x9_2 < (x8_2.length : Int)) = true := decide_eq_true c60
                                        clear c60
                                        obtain ⟨y161, hy161⟩ : ∃ y_ : List Bool, y_ = (x8_2.set (x9_2 : Int).toNat false) := ⟨_, rfl⟩
                                        replace H : (stileref01_Like.l1 k2 a0 a1 (a0.size : Int) x6_1 x7_1 y161 (wrap64 (x9_2 - 1))) = some r := by first | (rw [hy161]; with_reducible exact H) | (have H2_ := (Option.bind_some _ _).symm.trans H; rw [hy161]; with_reducible exact H2_) | (have H2_ := (Option.bind_some _ _).symm.trans H; with_reducible exact H2_) | with_reducible exact H | (rw [hy161]; exact H) | exact H
                                        have Ny161 := Aside0.mk hy161
                                        clear hy161
                                        have H' := Aside0.mk H
                                        clear H
                                        have p22 : 0 ≤ (x7_1 : Int) := of_decide_eq_true (by first | (with_reducible assumption) | assumption)
                                        have q22 : x7_1 < (a1.size : Int) := of_decide_eq_true (by first | (with_reducible assumption) | assumption)
                                        have hx22 := bt_at a1 x7_1
                                        replace p22 := eq_true p22
                                        replace q22 := eq_true q22
                                        have p61 : 0 ≤ (x9_2 : Int) := of_decide_eq_true (by first | (with_reducible assumption) | assumption)
                                        have q61 : (x9_2 : Int) < ((x8_2.length : Int) : Int) := of_decide_eq_true (by first | (with_reducible assumption) | assumption)
                                        obtain ⟨go61, co61, eo61, gb61, gl61, cl61, HG61⟩ := Kd.R_form HO_8.out (by omega)
                                        (first | cases eo61 | (injection eo61 with ea_ en_ ec_; (first | subst ea_ | (injection ea_ with ea_; subst ea_)); subst ec_; clear en_))
                                        have GB61 := Aside0.mk gb61
                                        have GG61 := Aside0.mk HG61
                                        clear gb61 gl61 HG61
                                        obtain ⟨hx61_0, hf61_0⟩ := Kd.R_celln false HO_8.out (x9_2 : Int) p61 q61
                                        replace p61 := eq_true p61
                                        replace q61 := eq_true q61
                                        have HP62 := Kd.R_putg HO_8.out (x9_2 : Int) false
                                        go_wp2_with (first | ((with_reducible refine gate_store (t := 4) (p := 93) rfl ?_); (try simp only [Int.toNat_natCast] at hx61_0 hf61_0); refine store_event (t := 4) (p := 93) (v := ?vo_w63) (w1 := (wr.setCell ⟨go61, (x9_2 : Int).toNat, none⟩ (.bool false))) ?hg ?ho ?hn ?hr ?_; (case ho => rfl); (case hg => rfl); (case hn => rfl); (case hr => first | (go_simp; done) | (go_simp; rfl)); intro w63 hw; have hg : wr.grownBy w63 (some go61) := (by rw [hw]; exact HP62.2); have hp_ : Kd.R Kd.bool 4 w63 w.heap.size (fun k_ => some k_ ≠ (u6 : Value).ownBlock) (.slice (some ⟨go61, 0, none⟩) x8_2.length co61) y161 := (by rw [hw, Ny161.out]; exact HP62.1); clear HP62; have n0_ := Aside0.mk (Kd.R_after (v := (.slice (some ⟨go61, 0, none⟩) x8_2.length co61)) (v1 := (.slice (some ⟨go61, 0, none⟩) x8_2.length co61)) (ok := (fun _ => True)) (by (with_reducible repeat (first | apply Kd.R_alloc | apply Kd.R_drewN | apply Kd.R_drew)); exact Kd.R_mono HO_6.out (fun _ hk => ⟨trivial, hk⟩)) hg (.inl rfl)); have n1_ := Aside0.mk (hp_); have n2_ := Aside0.mk ((by rw [hw]; exact below_set (HB.out) GB61.out : Below w.heap.size w w63)); clear HO_6; clear HO_8; clear HB; have HO_6 := n0_; have HO_8 := n1_; have HB := n2_; clear n0_ n1_ n2_; clear hg hw hp_))
                                        go_roundg k2
                                        case measure => have := HK1.out; have := HK2.out; omega
                                        case rel => exact ⟨(y161), (wrap64 (x9_2 - 1)), (by first | rfl | (simp; done) | (simp [*]; done)), H', ⟨by have := HK1.out; have := HK2.out; omega⟩, ⟨by (with_reducible repeat (first | apply Kd.R_alloc | apply Kd.R_drewN | apply Kd.R_drew)); exact Kd.R_mono HO_6.out (fun _ hk => hk.2)⟩, ⟨by (with_reducible repeat (first | apply Kd.R_alloc | apply Kd.R_drewN | apply Kd.R_drew)); exact HO_8.out⟩, ⟨by repeat (first | (with_reducible first | exact HB.out | apply below_alloc | apply pw_below_drewN | apply below_drew1) | exact HB.out)⟩⟩
                                      · rw [if_neg c60] at H
                                        exact absurd H (by simp)
                                    · rw [if_neg c59] at H
                                      exact absurd H (by simp)
                                · rw [if_neg c48] at H
                                  have c48b0 : ((bt a1 x7_1) == 95) = false := beq_eq_false_iff_ne.mpr c48
                                  have c48b1 : ((bt a1 x7_1) != 95) = true := bne_iff_ne.mpr c48
                                  by_cases c64 : x9_2 < (a0.size : Int)
                                  · rw [if_pos c64] at H
                                    have c64b0 : decide (x9_2 < (a0.size : Int)) = true := decide_eq_true c64
                                    clear c64
                                    by_cases c65 : 0 ≤ x9_2
                                    · rw [if_pos c65] at H
                                      have c65b0 : decide (0 ≤ x9_2) = true := decide_eq_true c65
                                      clear c65
                                      by_cases c66 : x9_2 < (a0.size : Int)
                                      · rw [if_pos c66] at H
                                        have c66b0 : decide (x9_2 < (a0.size : Int)) = true := decide_eq_true c66
                                        clear c66
                                        by_cases c69 : (bt a0 x9_2) = (bt a1 x7_1)
                                        · rw [if_pos c69] at H
                                          have c69b0 : ((bt a0 x9_2) == (bt a1 x7_1)) = true := beq_iff_eq.mpr c69
                                          have c69b1 : ((bt a0 x9_2) != (bt a1 x7_1)) = false := bne_eq_false_iff_eq.mpr c69
                                          clear c69
                                          obtain ⟨ji70, hji70⟩ : ∃ j_ : Int, (wrap64 (x9_2 + 1)) = j_ := ⟨_, rfl⟩
                                          replace H : (if 0 ≤ (ji70) then (if (ji70) < (x6_1.length : Int) then (if x9_2 < (x8_2.length : Int) then (stileref01_Like.l1 k2 a0 a1 (a0.size : Int) x6_1 x7_1 (x8_2.set (x9_2 : Int).toNat (rdOf false x6_1 (ji70))) (wrap64 (x9_2 - 1))) else (none)) else (none)) else (none)) = some r := by first | (rw [hji70] at H; exact H) | (simp only [hji70] at H ⊢; exact H)
                                          have hji70w : (IntKind.i64.wrap (x9_2 + 1)) = ji70 := (i64_w _).trans hji70
                                          by_cases c71 : 0 ≤ (ji70)
                                          · rw [if_pos c71] at H
                                            have c71b0 : decide (0 ≤ (ji70)) = true := decide_eq_true c71
                                            clear c71
                                            by_cases c72 : (ji70) < (x6_1.length : Int)
                                            · rw [if_pos c72] at H
                                              have c72b0 : decide ((ji70) < (x6_1.length : Int)) = true := decide_eq_true c72
                                              clear c72
                                              by_cases c73 : x9_2 < (x8_2.length : Int)
                                              · rw [if_pos c73] at H
                                                have c73b0 : decide (x9_2 < (x8_2.length : Int)) = true := decide_eq_true c73
                                                clear c73
                                                obtain ⟨y163, hy163⟩ : ∃ y_ : List Bool, y_ = (x8_2.set (x9_2 : Int).toNat (rdOf false x6_1 (ji70))) := ⟨_, rfl⟩
                                                replace H : (stileref01_Like.l1 k2 a0 a1 (a0.size : Int) x6_1 x7_1 y163 (wrap64 (x9_2 - 1))) = some r := by first | (rw [hy163]; with_reducible exact H) | (have H2_ := (Option.bind_some _ _).symm.trans H; rw [hy163]; with_reducible exact H2_) | (have H2_ := (Option.bind_some _ _).symm.trans H; with_reducible exact H2_) | with_reducible exact H | (rw [hy163]; exact H) | exact H
                                                have Ny163 := Aside0.mk hy163
                                                clear hy163
                                                have H' := Aside0.mk H
                                                clear H
                                                have p22 : 0 ≤ (x7_1 : Int) := of_decide_eq_true (by first | (with_reducible assumption) | assumption)
                                                have q22 : x7_1 < (a1.size : Int) := of_decide_eq_true (by first | (with_reducible assumption) | assumption)
                                                have hx22 := bt_at a1 x7_1
                                                replace p22 := eq_true p22
                                                replace q22 := eq_true q22
                                                try go_wp2
                                                have n0_ := Aside0.mk (Kd.R_drew HO_6.out)
                                                have n1_ := Aside0.mk (Kd.R_drew HO_8.out)
                                                have n2_ := Aside0.mk (below_drew1 HB.out)
                                                clear HO_6
                                                clear HO_8
                                                clear HB
                                                have HO_6 := n0_
                                                have HO_8 := n1_
                                                have HB := n2_
                                                clear n0_ n1_ n2_
                                                have p67 : 0 ≤ (x9_2 : Int) := of_decide_eq_true (by first | (with_reducible assumption) | assumption)
                                                have q67 : x9_2 < (a0.size : Int) := of_decide_eq_true (by first | (with_reducible assumption) | assumption)
                                                have hx67 := bt_at a0 x9_2
                                                replace p67 := eq_true p67
                                                replace q67 := eq_true q67
                                                have p68 : 0 ≤ (x7_1 : Int) := of_decide_eq_true (by first | (with_reducible assumption) | assumption)
                                                have q68 : x7_1 < (a1.size : Int) := of_decide_eq_true (by first | (with_reducible assumption) | assumption)
                                                have hx68 := bt_at a1 x7_1
                                                replace p68 := eq_true p68
                                                replace q68 := eq_true q68
                                                obtain ⟨Ao76, co76, eo76⟩ := Kd.R_slice HO_6.out
                                                (first | subst eo76 | (injection eo76 with f1_ f2_ f3_; have f4_ := f1_.symm; have f5_ := f3_.symm; clear f1_ f2_ f3_; subst f4_; subst f5_))
                                                have p162 : 0 ≤ ((ji70) : Int) := of_decide_eq_true (by first | (with_reducible assumption) | assumption)
                                                have q162 : (ji70) < (x6_1.length : Int) := of_decide_eq_true (by first | (with_reducible assumption) | assumption)
                                                obtain ⟨ad162, e162, hx162_0⟩ := Kd.at_bool (Kd.R_reads' HO_6.out).2.2 (ji70) p162 q162
                                                cases e162
                                                replace p162 := eq_true p162
                                                replace q162 := eq_true q162
                                                have p74 : 0 ≤ (x9_2 : Int) := of_decide_eq_true (by first | (with_reducible assumption) | assumption)
                                                have q74 : (x9_2 : Int) < ((x8_2.length : Int) : Int) := of_decide_eq_true (by first | (with_reducible assumption) | assumption)
                                                obtain ⟨go74, co74, eo74, gb74, gl74, cl74, HG74⟩ := Kd.R_form HO_8.out (by omega)
                                                (first | cases eo74 | (injection eo74 with ea_ en_ ec_; (first | subst ea_ | (injection ea_ with ea_; subst ea_)); subst ec_; clear en_))
                                                have GB74 := Aside0.mk gb74
                                                have GG74 := Aside0.mk HG74
                                                clear gb74 gl74 HG74
                                                obtain ⟨hx74_0, hf74_0⟩ := Kd.R_celln false HO_8.out (x9_2 : Int) p74 q74
                                                replace p74 := eq_true p74
                                                replace q74 := eq_true q74
                                                have HP77 := Kd.R_putn HO_8.out (x9_2 : Int) (rdOf false x6_1 (ji70))
                                                rw [← Ny163.out] at HP77
                                                have HQ77 := Aside0.mk HP77
                                                clear HP77
                                                refine start_ (n := 23) (S := fun w' => w'.cell? (ad162.add ((ji70)).toNat) = some (.bool (rdOf false x6_1 (ji70)))) (ds := [22]) #[false, false, false, false, false, false, false, false, false, false, false, false, false, false, false, false, false, false, false, false, false, false, false] (by kernel_rfl) rfl rfl (hx162_0) (fun hHeld => ?_); (try simp only [Int.toNat_natCast] at hx74_0 hf74_0); refine with_tabW stileref01_Like.tab12 stileref01_Like.bits12 (fun HT_ HW_ => ?_)
                                                generalize wr.drew = w75 at HO_6 HO_8 HB GG74 HQ77 hf74_0 hx162_0 hx74_0 hHeld ⊢
                                                refine pure_ (i := 0) (N := some 36) (v := ?_) (a' := ?_) #[true, false, false, false, false, false, false, false, false, false, false, false, false, false, false, false, false, false, false, false, false, false, false] rfl rfl (any_of HT_.out (by kernel_rfl)) (fun _ _ _ h => h) (Or.inl ⟨by rfl, ?_⟩) ?_ ?_
                                                rotate_left
                                                · intro w'
                                                  go_simp
                                                  with_reducible rfl
                                                rotate_left
                                                · simp only [Act.put, List.setIfInBounds_toArray, List.set_cons_zero, List.set_cons_succ, i64_w, i32_w]
                                                  rfl
                                                refine pure_ (i := 1) (N := some 37) (v := ?_) (a' := ?_) #[true, true, false, false, false, false, false, false, false, false, false, false, false, false, false, false, false, false, false, false, false, false, false] rfl rfl (any_of HT_.out (by kernel_rfl)) (fun _ _ _ h => h) (Or.inl ⟨by rfl, ?_⟩) ?_ ?_
                                                rotate_left
                                                · intro w'
                                                  go_simp
                                                  with_reducible rfl
                                                rotate_left
                                                · simp only [Act.put, List.setIfInBounds_toArray, List.set_cons_zero, List.set_cons_succ, i64_w, i32_w]
                                                  rfl
                                                refine pure_ (i := 2) (N := some 38) (v := ?_) (a' := ?_) #[true, true, true, false, false, false, false, false, false, false, false, false, false, false, false, false, false, false, false, false, false, false, false] rfl rfl (any_of HT_.out (by kernel_rfl)) (fun _ _ _ h => h) (Or.inl ⟨by rfl, ?_⟩) ?_ ?_
                                                rotate_left
                                                · intro w'
                                                  go_simp
                                                  with_reducible rfl
                                                rotate_left
                                                · simp only [Act.put, List.setIfInBounds_toArray, List.set_cons_zero, List.set_cons_succ, i64_w, i32_w]
                                                  rfl
                                                refine pure_ (i := 3) (N := some 39) (v := ?_) (a' := ?_) #[true, true, true, true, false, false, false, false, false, false, false, false, false, false, false, false, false, false, false, false, false, false, false] rfl rfl (any_of HT_.out (by kernel_rfl)) (fun _ _ _ h => h) (Or.inl ⟨by rfl, ?_⟩) ?_ ?_
                                                rotate_left
                                                · intro w'
                                                  go_simp
                                                  with_reducible rfl
                                                rotate_left
                                                · simp only [Act.put, List.setIfInBounds_toArray, List.set_cons_zero, List.set_cons_succ, i64_w, i32_w]
                                                  rfl
                                                refine pure_ (i := 4) (N := some 40) (v := ?_) (a' := ?_) #[true, true, true, true, true, false, false, false, false, false, false, false, false, false, false, false, false, false, false, false, false, false, false] rfl rfl (any_of HT_.out (by kernel_rfl)) (fun _ _ _ h => h) (Or.inl ⟨by rfl, ?_⟩) ?_ ?_
                                                rotate_left
                                                · intro w'
                                                  go_simp
                                                  with_reducible rfl
                                                rotate_left
                                                · simp only [Act.put, List.setIfInBounds_toArray, List.set_cons_zero, List.set_cons_succ, i64_w, i32_w]
                                                  rfl
                                                refine pure_ (i := 5) (N := some 41) (v := ?_) (a' := ?_) #[true, true, true, true, true, true, false, false, false, false, false, false, false, false, false, false, false, false, false, false, false, false, false] rfl rfl (any_of HT_.out (by kernel_rfl)) (fun _ _ _ h => h) (Or.inl ⟨by rfl, ?_⟩) ?_ ?_
                                                rotate_left
                                                · intro w'
                                                  go_simp
                                                  with_reducible rfl
                                                rotate_left
                                                · simp only [Act.put, List.setIfInBounds_toArray, List.set_cons_zero, List.set_cons_succ, i64_w, i32_w]
                                                  rfl
                                                refine pure_ (i := 6) (N := some 42) (v := ?_) (a' := ?_) #[true, true, true, true, true, true, true, false, false, false, false, false, false, false, false, false, false, false, false, false, false, false, false] rfl rfl (any_of HT_.out (by kernel_rfl)) (fun _ _ _ h => h) (Or.inl ⟨by rfl, ?_⟩) ?_ ?_
                                                rotate_left
                                                · intro w'
                                                  go_simp
                                                  with_reducible rfl
                                                rotate_left
                                                · simp only [Act.put, List.setIfInBounds_toArray, List.set_cons_zero, List.set_cons_succ, i64_w, i32_w]
                                                  rfl
                                                refine pure_ (i := 7) (N := some 43) (v := ?_) (a' := ?_) #[true, true, true, true, true, true, true, true, false, false, false, false, false, false, false, false, false, false, false, false, false, false, false] rfl rfl (any_of HT_.out (by kernel_rfl)) (fun _ _ _ h => h) (Or.inl ⟨by rfl, ?_⟩) ?_ ?_
                                                rotate_left
                                                · intro w'
                                                  go_simp
                                                  with_reducible rfl
                                                rotate_left
                                                · simp only [Act.put, List.setIfInBounds_toArray, List.set_cons_zero, List.set_cons_succ, i64_w, i32_w]
                                                  rfl
                                                refine pure_ (i := 9) (N := some 45) (v := ?_) (a' := ?_) #[true, true, true, true, true, true, true, true, false, true, false, false, false, false, false, false, false, false, false, false, false, false, false] rfl rfl (any_of HT_.out (by kernel_rfl)) (fun _ _ _ h => h) (Or.inl ⟨by rfl, ?_⟩) ?_ ?_
                                                rotate_left
                                                · intro w'
                                                  go_simp
                                                  with_reducible rfl
                                                rotate_left
                                                · simp only [Act.put, List.setIfInBounds_toArray, List.set_cons_zero, List.set_cons_succ, i64_w, i32_w]
                                                  rfl
                                                refine pure_ (i := 10) (N := some 46) (v := ?_) (a' := ?_) #[true, true, true, true, true, true, true, true, false, true, true, false, false, false, false, false, false, false, false, false, false, false, false] rfl rfl (any_of HT_.out (by kernel_rfl)) (fun _ _ _ h => h) (Or.inl ⟨by rfl, ?_⟩) ?_ ?_
                                                rotate_left
                                                · intro w'
                                                  go_simp
                                                  with_reducible rfl
                                                rotate_left
                                                · simp only [Act.put, List.setIfInBounds_toArray, List.set_cons_zero, List.set_cons_succ, i64_w, i32_w]
                                                  rfl
                                                refine take_ (i := 8) (N := some 44) (v := ?_) (a' := ?_) #[true, true, true, true, true, true, true, true, true, true, true, false, false, false, false, false, false, false, false, false, false, false, false] rfl rfl (take_ofW HT_.out HW_.out (by kernel_rfl)) (fun _ _ _ h => h) (Or.inl ⟨by rfl, ?_⟩) hHeld ?_ ?_
                                                rotate_left
                                                · intro w' s0
                                                  go_simp
                                                  with_reducible rfl
                                                rotate_left
                                                · simp only [Act.put, List.setIfInBounds_toArray, List.set_cons_zero, List.set_cons_succ, i64_w, i32_w]
                                                  rfl
                                                refine take_ (i := 11) (N := some 47) (v := ?_) (a' := ?_) #[true, true, true, true, true, true, true, true, true, true, true, true, false, false, false, false, false, false, false, false, false, false, false] rfl rfl (take_ofW HT_.out HW_.out (by kernel_rfl)) (fun _ _ _ h => h) (Or.inl ⟨by rfl, ?_⟩) hHeld ?_ ?_
                                                rotate_left
                                                · intro w' s0
                                                  go_simp
                                                  with_reducible rfl
                                                rotate_left
                                                · simp only [Act.put, List.setIfInBounds_toArray, List.set_cons_zero, List.set_cons_succ, i64_w, i32_w]
                                                  rfl
                                                refine pure_ (i := 12) (N := some 48) (v := ?_) (a' := ?_) #[true, true, true, true, true, true, true, true, true, true, true, true, true, false, false, false, false, false, false, false, false, false, false] rfl rfl (any_of HT_.out (by kernel_rfl)) (fun _ _ _ h => h) (Or.inl ⟨by rfl, ?_⟩) ?_ ?_
                                                rotate_left
                                                · intro w'
                                                  go_simp
                                                  with_reducible rfl
                                                rotate_left
                                                · simp only [Act.put, List.setIfInBounds_toArray, List.set_cons_zero, List.set_cons_succ, i64_w, i32_w]
                                                  rfl
                                                refine pure_ (i := 13) (N := some 49) (v := ?_) (a' := ?_) #[true, true, true, true, true, true, true, true, true, true, true, true, true, true, false, false, false, false, false, false, false, false, false] rfl rfl (any_of HT_.out (by kernel_rfl)) (fun _ _ _ h => h) (Or.inl ⟨by rfl, ?_⟩) ?_ ?_
                                                rotate_left
                                                · intro w'
                                                  go_simp
                                                  with_reducible rfl
                                                rotate_left
                                                · simp only [Act.put, List.setIfInBounds_toArray, List.set_cons_zero, List.set_cons_succ, i64_w, i32_w]
                                                  rfl
                                                refine pure_ (i := 14) (N := some 50) (v := ?_) (a' := ?_) #[true, true, true, true, true, true, true, true, true, true, true, true, true, true, true, false, false, false, false, false, false, false, false] rfl rfl (any_of HT_.out (by kernel_rfl)) (fun _ _ _ h => h) (Or.inl ⟨by rfl, ?_⟩) ?_ ?_
                                                rotate_left
                                                · intro w'
                                                  go_simp
                                                  with_reducible rfl
                                                rotate_left
                                                · simp only [Act.put, List.setIfInBounds_toArray, List.set_cons_zero, List.set_cons_succ, i64_w, i32_w]
                                                  rfl
                                                refine pure_ (i := 15) (N := some 51) (v := ?_) (a' := ?_) #[true, true, true, true, true, true, true, true, true, true, true, true, true, true, true, true, false, false, false, false, false, false, false] rfl rfl (any_of HT_.out (by kernel_rfl)) (fun _ _ _ h => h) (Or.inl ⟨by rfl, ?_⟩) ?_ ?_
                                                rotate_left
                                                · intro w'
                                                  go_simp
                                                  with_reducible rfl
                                                rotate_left
                                                · simp only [Act.put, List.setIfInBounds_toArray, List.set_cons_zero, List.set_cons_succ, i64_w, i32_w]
                                                  rfl
                                                refine pure_ (i := 16) (N := some 52) (v := ?_) (a' := ?_) #[true, true, true, true, true, true, true, true, true, true, true, true, true, true, true, true, true, false, false, false, false, false, false] rfl rfl (any_of HT_.out (by kernel_rfl)) (fun _ _ _ h => h) (Or.inl ⟨by rfl, ?_⟩) ?_ ?_
                                                rotate_left
                                                · intro w'
                                                  go_simp
                                                  with_reducible rfl
                                                rotate_left
                                                · simp only [Act.put, List.setIfInBounds_toArray, List.set_cons_zero, List.set_cons_succ, i64_w, i32_w]
                                                  rfl
                                                refine pure_ (i := 17) (N := some 53) (v := ?_) (a' := ?_) #[true, true, true, true, true, true, true, true, true, true, true, true, true, true, true, true, true, true, false, false, false, false, false] rfl rfl (any_of HT_.out (by kernel_rfl)) (fun _ _ _ h => h) (Or.inl ⟨by rfl, ?_⟩) ?_ ?_
                                                rotate_left
                                                · intro w'
                                                  go_simp
                                                  with_reducible rfl
                                                rotate_left
                                                · simp only [Act.put, List.setIfInBounds_toArray, List.set_cons_zero, List.set_cons_succ, i64_w, i32_w]
                                                  rfl
                                                refine pure_ (i := 18) (N := some 54) (v := ?_) (a' := ?_) #[true, true, true, true, true, true, true, true, true, true, true, true, true, true, true, true, true, true, true, false, false, false, false] rfl rfl (any_of HT_.out (by kernel_rfl)) (fun _ _ _ h => h) (Or.inl ⟨by rfl, ?_⟩) ?_ ?_
                                                rotate_left
                                                · intro w'
                                                  go_simp
                                                  with_reducible rfl
                                                rotate_left
                                                · simp only [Act.put, List.setIfInBounds_toArray, List.set_cons_zero, List.set_cons_succ, i64_w, i32_w]
                                                  rfl
                                                refine take_ (i := 19) (N := some 55) (v := ?_) (a' := ?_) #[true, true, true, true, true, true, true, true, true, true, true, true, true, true, true, true, true, true, true, true, false, false, false] rfl rfl (take_ofW HT_.out HW_.out (by kernel_rfl)) (fun _ _ _ h => h) (Or.inl ⟨by rfl, ?_⟩) hHeld ?_ ?_
                                                rotate_left
                                                · intro w' s0
                                                  go_simp
                                                  with_reducible rfl
                                                rotate_left
                                                · simp only [Act.put, List.setIfInBounds_toArray, List.set_cons_zero, List.set_cons_succ, i64_w, i32_w]
                                                  rfl
                                                refine pure_ (i := 20) (N := some 56) (v := ?_) (a' := ?_) #[true, true, true, true, true, true, true, true, true, true, true, true, true, true, true, true, true, true, true, true, true, false, false] rfl rfl (any_of HT_.out (by kernel_rfl)) (fun _ _ _ h => h) (Or.inl ⟨by rfl, ?_⟩) ?_ ?_
                                                rotate_left
                                                · intro w'
                                                  go_simp
                                                  with_reducible rfl
                                                rotate_left
                                                · simp only [Act.put, List.setIfInBounds_toArray, List.set_cons_zero, List.set_cons_succ, i64_w, i32_w]
                                                  rfl
                                                refine pure_ (i := 21) (N := some 57) (v := ?_) (a' := ?_) #[true, true, true, true, true, true, true, true, true, true, true, true, true, true, true, true, true, true, true, true, true, true, false] rfl rfl (any_of HT_.out (by kernel_rfl)) (fun _ _ _ h => h) (Or.inl ⟨by rfl, ?_⟩) ?_ ?_
                                                rotate_left
                                                · intro w'
                                                  go_simp
                                                  with_reducible rfl
                                                rotate_left
                                                · simp only [Act.put, List.setIfInBounds_toArray, List.set_cons_zero, List.set_cons_succ, i64_w, i32_w]
                                                  rfl
                                                refine last_ (i := 22) (N := none) #[true, true, true, true, true, true, true, true, true, true, true, true, true, true, true, true, true, true, true, true, true, true, true] rfl rfl (one_of HT_.out (by kernel_rfl)) (by decide) (fun K hK => ?_)
                                                refine skip_ (w1 := ?_) (by rfl) rfl ?_ ?_
                                                rotate_left
                                                · go_simp
                                                  rfl
                                                refine hK.out _ _ ?_
                                                clear hK K
                                                refine done_ (done_of HT_.out (by kernel_rfl)) ?_
                                                try go_wp2
                                                go_roundg k2
                                                case measure => have := HK1.out; have := HK2.out; omega
                                                case rel => exact ⟨(y163), (wrap64 (x9_2 - 1)), (by first | rfl | (simp; done) | (simp [*]; done)), H', ⟨by have := HK1.out; have := HK2.out; omega⟩, ⟨by (with_reducible repeat (first | apply Kd.R_alloc | apply Kd.R_drewN | apply Kd.R_drew)); exact Kd.R_mono (Kd.R_far (p := ⟨go74, (x9_2 : Int).toNat, none⟩) (Kd.R_mono HO_6.out (fun k_ hk => (⟨hk, fun e_ => hk (by rw [e_]; rfl)⟩ : _ ∧ k_ ≠ go74))) (fun _ hk => hk.2) (.bool (rdOf false x6_1 (ji70)))) (fun _ hk => hk.1)⟩, ⟨by (with_reducible repeat (first | apply Kd.R_alloc | apply Kd.R_drewN | apply Kd.R_drew)); exact HQ77.out⟩, ⟨by repeat (first | (with_reducible first | exact HB.out | apply below_alloc | apply pw_below_drewN | apply below_drew1 | refine below_set ?_ GB74.out) | exact HB.out)⟩⟩
                                              · rw [if_neg c73] at H
                                                exact absurd H (by simp)
                                            · rw [if_neg c72] at H
                                              exact absurd H (by simp)
                                          · rw [if_neg c71] at H
                                            exact absurd H (by simp)
                                        · rw [if_neg c69] at H
                                          have c69b0 : ((bt a0 x9_2) == (bt a1 x7_1)) = false := beq_eq_false_iff_ne.mpr c69
                                          have c69b1 : ((bt a0 x9_2) != (bt a1 x7_1)) = true := bne_iff_ne.mpr c69
                                          by_cases c78 : x9_2 < (x8_2.length : Int)
                                          · rw [if_pos c78] at H
                                            have c78b0 : decide (x9_2 < (x8_2.length : Int)) = true := decide_eq_true c78
                                            clear c78
                                            obtain ⟨y164, hy164⟩ : ∃ y_ : List Bool, y_ = (x8_2.set (x9_2 : Int).toNat false) := ⟨_, rfl⟩
                                            replace H : (stileref01_Like.l1 k2 a0 a1 (a0.size : Int) x6_1 x7_1 y164 (wrap64 (x9_2 - 1))) = some r := by first | (rw [hy164]; with_reducible exact H) | (have H2_ := (Option.bind_some _ _).symm.trans H; rw [hy164]; with_reducible exact H2_) | (have H2_ := (Option.bind_some _ _).symm.trans H; with_reducible exact H2_) | with_reducible exact H | (rw [hy164]; exact H) | exact H
                                            have Ny164 := Aside0.mk hy164
                                            clear hy164
                                            have H' := Aside0.mk H
                                            clear H
                                            have p22 : 0 ≤ (x7_1 : Int) := of_decide_eq_true (by first | (with_reducible assumption) | assumption)
                                            have q22 : x7_1 < (a1.size : Int) := of_decide_eq_true (by first | (with_reducible assumption) | assumption)
                                            have hx22 := bt_at a1 x7_1
                                            replace p22 := eq_true p22
                                            replace q22 := eq_true q22
                                            try go_wp2
                                            have n0_ := Aside0.mk (Kd.R_drew HO_6.out)
                                            have n1_ := Aside0.mk (Kd.R_drew HO_8.out)
                                            have n2_ := Aside0.mk (below_drew1 HB.out)
                                            clear HO_6
                                            clear HO_8
                                            clear HB
                                            have HO_6 := n0_
                                            have HO_8 := n1_
                                            have HB := n2_
                                            clear n0_ n1_ n2_
                                            have p67 : 0 ≤ (x9_2 : Int) := of_decide_eq_true (by first | (with_reducible assumption) | assumption)
                                            have q67 : x9_2 < (a0.size : Int) := of_decide_eq_true (by first | (with_reducible assumption) | assumption)
                                            have hx67 := bt_at a0 x9_2
                                            replace p67 := eq_true p67
                                            replace q67 := eq_true q67
                                            have p68 : 0 ≤ (x7_1 : Int) := of_decide_eq_true (by first | (with_reducible assumption) | assumption)
                                            have q68 : x7_1 < (a1.size : Int) := of_decide_eq_true (by first | (with_reducible assumption) | assumption)
                                            have hx68 := bt_at a1 x7_1
                                            replace p68 := eq_true p68
                                            replace q68 := eq_true q68
                                            have p79 : 0 ≤ (x9_2 : Int) := of_decide_eq_true (by first | (with_reducible assumption) | assumption)
                                            have q79 : (x9_2 : Int) < ((x8_2.length : Int) : Int) := of_decide_eq_true (by first | (with_reducible assumption) | assumption)
                                            obtain ⟨go79, co79, eo79, gb79, gl79, cl79, HG79⟩ := Kd.R_form HO_8.out (by omega)
                                            (first | cases eo79 | (injection eo79 with ea_ en_ ec_; (first | subst ea_ | (injection ea_ with ea_; subst ea_)); subst ec_; clear en_))
                                            have GB79 := Aside0.mk gb79
                                            have GG79 := Aside0.mk HG79
                                            clear gb79 gl79 HG79
                                            obtain ⟨hx79_0, hf79_0⟩ := Kd.R_celln false HO_8.out (x9_2 : Int) p79 q79
                                            replace p79 := eq_true p79
                                            replace q79 := eq_true q79
                                            have HP81 := Kd.R_putn HO_8.out (x9_2 : Int) false
                                            rw [← Ny164.out] at HP81
                                            have HQ81 := Aside0.mk HP81
                                            clear HP81
                                            refine start_ (n := 23) (S := fun w' => True) (ds := [22]) #[false, false, false, false, false, false, false, false, false, false, false, false, false, false, false, false, false, false, false, false, false, false, false] (by kernel_rfl) rfl rfl trivial (fun hHeld => ?_); (try simp only [Int.toNat_natCast] at hx79_0 hf79_0); refine with_tabW stileref01_Like.tab12 stileref01_Like.bits12 (fun HT_ HW_ => ?_)
                                            generalize wr.drew = w80 at HO_6 HO_8 HB GG79 HQ81 hf79_0 hx79_0 hHeld ⊢
                                            refine pure_ (i := 0) (N := some 36) (v := ?_) (a' := ?_) #[true, false, false, false, false, false, false, false, false, false, false, false, false, false, false, false, false, false, false, false, false, false, false] rfl rfl (any_of HT_.out (by kernel_rfl)) (fun _ _ _ h => h) (Or.inl ⟨by rfl, ?_⟩) ?_ ?_
                                            rotate_left
                                            · intro w'
                                              go_simp
                                              with_reducible rfl
                                            rotate_left
                                            · simp only [Act.put, List.setIfInBounds_toArray, List.set_cons_zero, List.set_cons_succ, i64_w, i32_w]
                                              rfl
                                            refine pure_ (i := 1) (N := some 37) (v := ?_) (a' := ?_) #[true, true, false, false, false, false, false, false, false, false, false, false, false, false, false, false, false, false, false, false, false, false, false] rfl rfl (any_of HT_.out (by kernel_rfl)) (fun _ _ _ h => h) (Or.inl ⟨by rfl, ?_⟩) ?_ ?_
                                            rotate_left
                                            · intro w'
                                              go_simp
                                              with_reducible rfl
                                            rotate_left
                                            · simp only [Act.put, List.setIfInBounds_toArray, List.set_cons_zero, List.set_cons_succ, i64_w, i32_w]
                                              rfl
                                            refine pure_ (i := 2) (N := some 38) (v := ?_) (a' := ?_) #[true, true, true, false, false, false, false, false, false, false, false, false, false, false, false, false, false, false, false, false, false, false, false] rfl rfl (any_of HT_.out (by kernel_rfl)) (fun _ _ _ h => h) (Or.inl ⟨by rfl, ?_⟩) ?_ ?_
                                            rotate_left
                                            · intro w'
                                              go_simp
                                              with_reducible rfl
                                            rotate_left
                                            · simp only [Act.put, List.setIfInBounds_toArray, List.set_cons_zero, List.set_cons_succ, i64_w, i32_w]
                                              rfl
                                            refine pure_ (i := 3) (N := some 39) (v := ?_) (a' := ?_) #[true, true, true, true, false, false, false, false, false, false, false, false, false, false, false, false, false, false, false, false, false, false, false] rfl rfl (any_of HT_.out (by kernel_rfl)) (fun _ _ _ h => h) (Or.inl ⟨by rfl, ?_⟩) ?_ ?_
                                            rotate_left
                                            · intro w'
                                              go_simp
                                              with_reducible rfl
                                            rotate_left
                                            · simp only [Act.put, List.setIfInBounds_toArray, List.set_cons_zero, List.set_cons_succ, i64_w, i32_w]
                                              rfl
                                            refine pure_ (i := 4) (N := some 40) (v := ?_) (a' := ?_) #[true, true, true, true, true, false, false, false, false, false, false, false, false, false, false, false, false, false, false, false, false, false, false] rfl rfl (any_of HT_.out (by kernel_rfl)) (fun _ _ _ h => h) (Or.inl ⟨by rfl, ?_⟩) ?_ ?_
                                            rotate_left
                                            · intro w'
                                              go_simp
                                              with_reducible rfl
                                            rotate_left
                                            · simp only [Act.put, List.setIfInBounds_toArray, List.set_cons_zero, List.set_cons_succ, i64_w, i32_w]
                                              rfl
                                            refine pure_ (i := 5) (N := some 41) (v := ?_) (a' := ?_) #[true, true, true, true, true, true, false, false, false, false, false, false, false, false, false, false, false, false, false, false, false, false, false] rfl rfl (any_of HT_.out (by kernel_rfl)) (fun _ _ _ h => h) (Or.inl ⟨by rfl, ?_⟩) ?_ ?_
                                            rotate_left
                                            · intro w'
                                              go_simp
                                              with_reducible rfl
                                            rotate_left
                                            · simp only [Act.put, List.setIfInBounds_toArray, List.set_cons_zero, List.set_cons_succ, i64_w, i32_w]
                                              rfl
                                            refine pure_ (i := 6) (N := some 42) (v := ?_) (a' := ?_) #[true, true, true, true, true, true, true, false, false, false, false, false, false, false, false, false, false, false, false, false, false, false, false] rfl rfl (any_of HT_.out (by kernel_rfl)) (fun _ _ _ h => h) (Or.inl ⟨by rfl, ?_⟩) ?_ ?_
                                            rotate_left
                                            · intro w'
                                              go_simp
                                              with_reducible rfl
                                            rotate_left
                                            · simp only [Act.put, List.setIfInBounds_toArray, List.set_cons_zero, List.set_cons_succ, i64_w, i32_w]
                                              rfl
                                            refine pure_ (i := 7) (N := some 43) (v := ?_) (a' := ?_) #[true, true, true, true, true, true, true, true, false, false, false, false, false, false, false, false, false, false, false, false, false, false, false] rfl rfl (any_of HT_.out (by kernel_rfl)) (fun _ _ _ h => h) (Or.inl ⟨by rfl, ?_⟩) ?_ ?_
                                            rotate_left
                                            · intro w'
                                              go_simp
                                              with_reducible rfl
                                            rotate_left
                                            · simp only [Act.put, List.setIfInBounds_toArray, List.set_cons_zero, List.set_cons_succ, i64_w, i32_w]
                                              rfl
                                            refine pure_ (i := 9) (N := some 45) (v := ?_) (a' := ?_) #[true, true, true, true, true, true, true, true, false, true, false, false, false, false, false, false, false, false, false, false, false, false, false] rfl rfl (any_of HT_.out (by kernel_rfl)) (fun _ _ _ h => h) (Or.inl ⟨by rfl, ?_⟩) ?_ ?_
                                            rotate_left
                                            · intro w'
                                              go_simp
                                              with_reducible rfl
                                            rotate_left
                                            · simp only [Act.put, List.setIfInBounds_toArray, List.set_cons_zero, List.set_cons_succ, i64_w, i32_w]
                                              rfl
                                            refine pure_ (i := 10) (N := some 46) (v := ?_) (a' := ?_) #[true, true, true, true, true, true, true, true, false, true, true, false, false, false, false, false, false, false, false, false, false, false, false] rfl rfl (any_of HT_.out (by kernel_rfl)) (fun _ _ _ h => h) (Or.inl ⟨by rfl, ?_⟩) ?_ ?_
                                            rotate_left
                                            · intro w'
                                              go_simp
                                              with_reducible rfl
                                            rotate_left
                                            · simp only [Act.put, List.setIfInBounds_toArray, List.set_cons_zero, List.set_cons_succ, i64_w, i32_w]
                                              rfl
                                            refine take_ (i := 8) (N := some 44) (v := ?_) (a' := ?_) #[true, true, true, true, true, true, true, true, true, true, true, false, false, false, false, false, false, false, false, false, false, false, false] rfl rfl (take_ofW HT_.out HW_.out (by kernel_rfl)) (fun _ _ _ h => h) (Or.inl ⟨by rfl, ?_⟩) hHeld ?_ ?_
                                            rotate_left
                                            · intro w' _
                                              go_simp
                                              with_reducible rfl
                                            rotate_left
                                            · simp only [Act.put, List.setIfInBounds_toArray, List.set_cons_zero, List.set_cons_succ, i64_w, i32_w]
                                              rfl
                                            refine take_ (i := 11) (N := some 47) (v := ?_) (a' := ?_) #[true, true, true, true, true, true, true, true, true, true, true, true, false, false, false, false, false, false, false, false, false, false, false] rfl rfl (take_ofW HT_.out HW_.out (by kernel_rfl)) (fun _ _ _ h => h) (Or.inl ⟨by rfl, ?_⟩) hHeld ?_ ?_
                                            rotate_left
                                            · intro w' _
                                              go_simp
                                              with_reducible rfl
                                            rotate_left
                                            · simp only [Act.put, List.setIfInBounds_toArray, List.set_cons_zero, List.set_cons_succ, i64_w, i32_w]
                                              rfl
                                            refine pure_ (i := 12) (N := some 48) (v := ?_) (a' := ?_) #[true, true, true, true, true, true, true, true, true, true, true, true, true, false, false, false, false, false, false, false, false, false, false] rfl rfl (any_of HT_.out (by kernel_rfl)) (fun _ _ _ h => h) (Or.inl ⟨by rfl, ?_⟩) ?_ ?_
                                            rotate_left
                                            · intro w'
                                              go_simp
                                              with_reducible rfl
                                            rotate_left
                                            · simp only [Act.put, List.setIfInBounds_toArray, List.set_cons_zero, List.set_cons_succ, i64_w, i32_w]
                                              rfl
                                            refine pure_ (i := 13) (N := some 49) (v := ?_) (a' := ?_) #[true, true, true, true, true, true, true, true, true, true, true, true, true, true, false, false, false, false, false, false, false, false, false] rfl rfl (any_of HT_.out (by kernel_rfl)) (fun _ _ _ h => h) (Or.inl ⟨by rfl, ?_⟩) ?_ ?_
                                            rotate_left
                                            · intro w'
                                              go_simp
                                              with_reducible rfl
                                            rotate_left
                                            · simp only [Act.put, List.setIfInBounds_toArray, List.set_cons_zero, List.set_cons_succ, i64_w, i32_w]
                                              rfl
                                            refine pure_ (i := 14) (N := some 50) (v := ?_) (a' := ?_) #[true, true, true, true, true, true, true, true, true, true, true, true, true, true, true, false, false, false, false, false, false, false, false] rfl rfl (any_of HT_.out (by kernel_rfl)) (fun _ _ _ h => h) (Or.inl ⟨by rfl, ?_⟩) ?_ ?_
                                            rotate_left
                                            · intro w'
                                              go_simp
                                              with_reducible rfl
                                            rotate_left
                                            · simp only [Act.put, List.setIfInBounds_toArray, List.set_cons_zero, List.set_cons_succ, i64_w, i32_w]
                                              rfl
                                            refine pure_ (i := 15) (N := some 51) (v := undef) (a' := ?_) #[true, true, true, true, true, true, true, true, true, true, true, true, true, true, true, true, false, false, false, false, false, false, false] rfl rfl (any_of HT_.out (by kernel_rfl)) (fun _ _ _ h => h) (Or.inr ⟨by rfl, rfl⟩) ?_ ?_
                                            rotate_left
                                            · simp only [Act.put, List.setIfInBounds_toArray, List.set_cons_zero, List.set_cons_succ, i64_w, i32_w]
                                              rfl
                                            refine pure_ (i := 16) (N := some 52) (v := undef) (a' := ?_) #[true, true, true, true, true, true, true, true, true, true, true, true, true, true, true, true, true, false, false, false, false, false, false] rfl rfl (any_of HT_.out (by kernel_rfl)) (fun _ _ _ h => h) (Or.inr ⟨by rfl, rfl⟩) ?_ ?_
                                            rotate_left
                                            · simp only [Act.put, List.setIfInBounds_toArray, List.set_cons_zero, List.set_cons_succ, i64_w, i32_w]
                                              rfl
                                            refine pure_ (i := 17) (N := some 53) (v := undef) (a' := ?_) #[true, true, true, true, true, true, true, true, true, true, true, true, true, true, true, true, true, true, false, false, false, false, false] rfl rfl (any_of HT_.out (by kernel_rfl)) (fun _ _ _ h => h) (Or.inr ⟨by rfl, rfl⟩) ?_ ?_
                                            rotate_left
                                            · simp only [Act.put, List.setIfInBounds_toArray, List.set_cons_zero, List.set_cons_succ, i64_w, i32_w]
                                              rfl
                                            refine pure_ (i := 18) (N := some 54) (v := undef) (a' := ?_) #[true, true, true, true, true, true, true, true, true, true, true, true, true, true, true, true, true, true, true, false, false, false, false] rfl rfl (any_of HT_.out (by kernel_rfl)) (fun _ _ _ h => h) (Or.inr ⟨by rfl, rfl⟩) ?_ ?_
                                            rotate_left
                                            · simp only [Act.put, List.setIfInBounds_toArray, List.set_cons_zero, List.set_cons_succ, i64_w, i32_w]
                                              rfl
                                            refine pure_ (i := 19) (N := some 55) (v := undef) (a' := ?_) #[true, true, true, true, true, true, true, true, true, true, true, true, true, true, true, true, true, true, true, true, false, false, false] rfl rfl (any_of HT_.out (by kernel_rfl)) (fun _ _ _ h => h) (Or.inr ⟨by rfl, rfl⟩) ?_ ?_
                                            rotate_left
                                            · simp only [Act.put, List.setIfInBounds_toArray, List.set_cons_zero, List.set_cons_succ, i64_w, i32_w]
                                              rfl
                                            refine pure_ (i := 20) (N := some 56) (v := ?_) (a' := ?_) #[true, true, true, true, true, true, true, true, true, true, true, true, true, true, true, true, true, true, true, true, true, false, false] rfl rfl (any_of HT_.out (by kernel_rfl)) (fun _ _ _ h => h) (Or.inl ⟨by rfl, ?_⟩) ?_ ?_
                                            rotate_left
                                            · intro w'
                                              go_simp
                                              with_reducible rfl
                                            rotate_left
                                            · simp only [Act.put, List.setIfInBounds_toArray, List.set_cons_zero, List.set_cons_succ, i64_w, i32_w]
                                              rfl
                                            refine pure_ (i := 21) (N := some 57) (v := ?_) (a' := ?_) #[true, true, true, true, true, true, true, true, true, true, true, true, true, true, true, true, true, true, true, true, true, true, false] rfl rfl (any_of HT_.out (by kernel_rfl)) (fun _ _ _ h => h) (Or.inl ⟨by rfl, ?_⟩) ?_ ?_
                                            rotate_left
                                            · intro w'
                                              go_simp
                                              with_reducible rfl
                                            rotate_left
                                            · simp only [Act.put, List.setIfInBounds_toArray, List.set_cons_zero, List.set_cons_succ, i64_w, i32_w]
                                              rfl
                                            refine last_ (i := 22) (N := none) #[true, true, true, true, true, true, true, true, true, true, true, true, true, true, true, true, true, true, true, true, true, true, true] rfl rfl (one_of HT_.out (by kernel_rfl)) (by decide) (fun K hK => ?_)
                                            refine skip_ (w1 := ?_) (by rfl) rfl ?_ ?_
                                            rotate_left
                                            · go_simp
                                              rfl
                                            refine hK.out _ _ ?_
                                            clear hK K
                                            refine done_ (done_of HT_.out (by kernel_rfl)) ?_
                                            try go_wp2
                                            go_roundg k2
                                            case measure => have := HK1.out; have := HK2.out; omega
                                            case rel => exact ⟨(y164), (wrap64 (x9_2 - 1)), (by first | rfl | (simp; done) | (simp [*]; done)), H', ⟨by have := HK1.out; have := HK2.out; omega⟩, ⟨by (with_reducible repeat (first | apply Kd.R_alloc | apply Kd.R_drewN | apply Kd.R_drew)); exact Kd.R_mono (Kd.R_far (p := ⟨go79, (x9_2 : Int).toNat, none⟩) (Kd.R_mono HO_6.out (fun k_ hk => (⟨hk, fun e_ => hk (by rw [e_]; rfl)⟩ : _ ∧ k_ ≠ go79))) (fun _ hk => hk.2) (.bool false)) (fun _ hk => hk.1)⟩, ⟨by (with_reducible repeat (first | apply Kd.R_alloc | apply Kd.R_drewN | apply Kd.R_drew)); exact HQ81.out⟩, ⟨by repeat (first | (with_reducible first | exact HB.out | apply below_alloc | apply pw_below_drewN | apply below_drew1 | refine below_set ?_ GB79.out) | exact HB.out)⟩⟩
                                          · rw [if_neg c78] at H
                                            exact absurd H (by simp)
                                      · rw [if_neg c66] at H
                                        exact absurd H (by simp)
                                    · rw [if_neg c65] at H
                                      exact absurd H (by simp)
                                  · rw [if_neg c64] at H
                                    have c64b0 : decide (x9_2 < (a0.size : Int)) = false := decide_eq_false c64
                                    clear c64
                                    by_cases c82 : 0 ≤ x9_2
                                    · rw [if_pos c82] at H
                                      have c82b0 : decide (0 ≤ x9_2) = true := decide_eq_true c82
                                      clear c82
                                      by_cases c83 : x9_2 < (x8_2.length : Int)
                                      · rw [if_pos c83] at H
                                        have c83b0 : decide (x9_2 < (x8_2.length : Int)) = true := decide_eq_true c83
                                        clear c83
                                        obtain ⟨y165, hy165⟩ : ∃ y_ : List Bool, y_ = (x8_2.set (x9_2 : Int).toNat false) := ⟨_, rfl⟩
                                        replace H : (stileref01_Like.l1 k2 a0 a1 (a0.size : Int) x6_1 x7_1 y165 (wrap64 (x9_2 - 1))) = some r := by first | (rw [hy165]; with_reducible exact H) | (have H2_ := (Option.bind_some _ _).symm.trans H; rw [hy165]; with_reducible exact H2_) | (have H2_ := (Option.bind_some _ _).symm.trans H; with_reducible exact H2_) | with_reducible exact H | (rw [hy165]; exact H) | exact H
                                        have Ny165 := Aside0.mk hy165
                                        clear hy165
                                        have H' := Aside0.mk H
                                        clear H
                                        have p22 : 0 ≤ (x7_1 : Int) := of_decide_eq_true (by first | (with_reducible assumption) | assumption)
                                        have q22 : x7_1 < (a1.size : Int) := of_decide_eq_true (by first | (with_reducible assumption) | assumption)
                                        have hx22 := bt_at a1 x7_1
                                        replace p22 := eq_true p22
                                        replace q22 := eq_true q22
                                        try go_wp2
                                        have n0_ := Aside0.mk (Kd.R_drew HO_6.out)
                                        have n1_ := Aside0.mk (Kd.R_drew HO_8.out)
                                        have n2_ := Aside0.mk (below_drew1 HB.out)
                                        clear HO_6
                                        clear HO_8
                                        clear HB
                                        have HO_6 := n0_
                                        have HO_8 := n1_
                                        have HB := n2_
                                        clear n0_ n1_ n2_
                                        have p84 : 0 ≤ (x9_2 : Int) := of_decide_eq_true (by first | (with_reducible assumption) | assumption)
                                        have q84 : (x9_2 : Int) < ((x8_2.length : Int) : Int) := of_decide_eq_true (by first | (with_reducible assumption) | assumption)
                                        obtain ⟨go84, co84, eo84, gb84, gl84, cl84, HG84⟩ := Kd.R_form HO_8.out (by omega)
                                        (first | cases eo84 | (injection eo84 with ea_ en_ ec_; (first | subst ea_ | (injection ea_ with ea_; subst ea_)); subst ec_; clear en_))
                                        have GB84 := Aside0.mk gb84
                                        have GG84 := Aside0.mk HG84
                                        clear gb84 gl84 HG84
                                        obtain ⟨hx84_0, hf84_0⟩ := Kd.R_celln false HO_8.out (x9_2 : Int) p84 q84
                                        replace p84 := eq_true p84
                                        replace q84 := eq_true q84
                                        have HP86 := Kd.R_putn HO_8.out (x9_2 : Int) false
                                        rw [← Ny165.out] at HP86
                                        have HQ86 := Aside0.mk HP86
                                        clear HP86
                                        refine start_ (n := 23) (S := fun w' => True) (ds := [22]) #[false, false, false, false, false, false, false, false, false, false, false, false, false, false, false, false, false, false, false, false, false, false, false] (by kernel_rfl) rfl rfl trivial (fun hHeld => ?_); (try simp only [Int.toNat_natCast] at hx84_0 hf84_0); refine with_tabW stileref01_Like.tab12 stileref01_Like.bits12 (fun HT_ HW_ => ?_)
                                        generalize wr.drew = w85 at HO_6 HO_8 HB GG84 HQ86 hf84_0 hx84_0 hHeld ⊢
                                        refine pure_ (i := 0) (N := some 36) (v := ?_) (a' := ?_) #[true, false, false, false, false, false, false, false, false, false, false, false, false, false, false, false, false, false, false, false, false, false, false] rfl rfl (any_of HT_.out (by kernel_rfl)) (fun _ _ _ h => h) (Or.inl ⟨by rfl, ?_⟩) ?_ ?_
                                        rotate_left
                                        · intro w'
                                          go_simp
                                          with_reducible rfl
                                        rotate_left
                                        · simp only [Act.put, List.setIfInBounds_toArray, List.set_cons_zero, List.set_cons_succ, i64_w, i32_w]
                                          rfl
                                        refine pure_ (i := 1) (N := some 37) (v := ?_) (a' := ?_) #[true, true, false, false, false, false, false, false, false, false, false, false, false, false, false, false, false, false, false, false, false, false, false] rfl rfl (any_of HT_.out (by kernel_rfl)) (fun _ _ _ h => h) (Or.inl ⟨by rfl, ?_⟩) ?_ ?_
                                        rotate_left
                                        · intro w'
                                          go_simp
                                          with_reducible rfl
                                        rotate_left
                                        · simp only [Act.put, List.setIfInBounds_toArray, List.set_cons_zero, List.set_cons_succ, i64_w, i32_w]
                                          rfl
                                        refine pure_ (i := 2) (N := some 38) (v := ?_) (a' := ?_) #[true, true, true, false, false, false, false, false, false, false, false, false, false, false, false, false, false, false, false, false, false, false, false] rfl rfl (any_of HT_.out (by kernel_rfl)) (fun _ _ _ h => h) (Or.inl ⟨by rfl, ?_⟩) ?_ ?_
                                        rotate_left
                                        · intro w'
                                          go_simp
                                          with_reducible rfl
                                        rotate_left
                                        · simp only [Act.put, List.setIfInBounds_toArray, List.set_cons_zero, List.set_cons_succ, i64_w, i32_w]
                                          rfl
                                        refine pure_ (i := 3) (N := some 39) (v := ?_) (a' := ?_) #[true, true, true, true, false, false, false, false, false, false, false, false, false, false, false, false, false, false, false, false, false, false, false] rfl rfl (any_of HT_.out (by kernel_rfl)) (fun _ _ _ h => h) (Or.inl ⟨by rfl, ?_⟩) ?_ ?_
                                        rotate_left
                                        · intro w'
                                          go_simp
                                          with_reducible rfl
                                        rotate_left
                                        · simp only [Act.put, List.setIfInBounds_toArray, List.set_cons_zero, List.set_cons_succ, i64_w, i32_w]
                                          rfl
                                        refine pure_ (i := 4) (N := some 40) (v := ?_) (a' := ?_) #[true, true, true, true, true, false, false, false, false, false, false, false, false, false, false, false, false, false, false, false, false, false, false] rfl rfl (any_of HT_.out (by kernel_rfl)) (fun _ _ _ h => h) (Or.inl ⟨by rfl, ?_⟩) ?_ ?_
                                        rotate_left
                                        · intro w'
                                          go_simp
                                          with_reducible rfl
                                        rotate_left
                                        · simp only [Act.put, List.setIfInBounds_toArray, List.set_cons_zero, List.set_cons_succ, i64_w, i32_w]
                                          rfl
                                        refine pure_ (i := 5) (N := some 41) (v := ?_) (a' := ?_) #[true, true, true, true, true, true, false, false, false, false, false, false, false, false, false, false, false, false, false, false, false, false, false] rfl rfl (any_of HT_.out (by kernel_rfl)) (fun _ _ _ h => h) (Or.inl ⟨by rfl, ?_⟩) ?_ ?_
                                        rotate_left
                                        · intro w'
                                          go_simp
                                          with_reducible rfl
                                        rotate_left
                                        · simp only [Act.put, List.setIfInBounds_toArray, List.set_cons_zero, List.set_cons_succ, i64_w, i32_w]
                                          rfl
                                        refine pure_ (i := 6) (N := some 42) (v := undef) (a' := ?_) #[true, true, true, true, true, true, true, false, false, false, false, false, false, false, false, false, false, false, false, false, false, false, false] rfl rfl (any_of HT_.out (by kernel_rfl)) (fun _ _ _ h => h) (Or.inr ⟨by rfl, rfl⟩) ?_ ?_
                                        rotate_left
                                        · simp only [Act.put, List.setIfInBounds_toArray, List.set_cons_zero, List.set_cons_succ, i64_w, i32_w]
                                          rfl
                                        refine pure_ (i := 7) (N := some 43) (v := undef) (a' := ?_) #[true, true, true, true, true, true, true, true, false, false, false, false, false, false, false, false, false, false, false, false, false, false, false] rfl rfl (any_of HT_.out (by kernel_rfl)) (fun _ _ _ h => h) (Or.inr ⟨by rfl, rfl⟩) ?_ ?_
                                        rotate_left
                                        · simp only [Act.put, List.setIfInBounds_toArray, List.set_cons_zero, List.set_cons_succ, i64_w, i32_w]
                                          rfl
                                        refine pure_ (i := 8) (N := some 44) (v := undef) (a' := ?_) #[true, true, true, true, true, true, true, true, true, false, false, false, false, false, false, false, false, false, false, false, false, false, false] rfl rfl (any_of HT_.out (by kernel_rfl)) (fun _ _ _ h => h) (Or.inr ⟨by rfl, rfl⟩) ?_ ?_
                                        rotate_left
                                        · simp only [Act.put, List.setIfInBounds_toArray, List.set_cons_zero, List.set_cons_succ, i64_w, i32_w]
                                          rfl
                                        refine pure_ (i := 9) (N := some 45) (v := undef) (a' := ?_) #[true, true, true, true, true, true, true, true, true, true, false, false, false, false, false, false, false, false, false, false, false, false, false] rfl rfl (any_of HT_.out (by kernel_rfl)) (fun _ _ _ h => h) (Or.inr ⟨by rfl, rfl⟩) ?_ ?_
                                        rotate_left
                                        · simp only [Act.put, List.setIfInBounds_toArray, List.set_cons_zero, List.set_cons_succ, i64_w, i32_w]
                                          rfl
                                        refine pure_ (i := 10) (N := some 46) (v := undef) (a' := ?_) #[true, true, true, true, true, true, true, true, true, true, true, false, false, false, false, false, false, false, false, false, false, false, false] rfl rfl (any_of HT_.out (by kernel_rfl)) (fun _ _ _ h => h) (Or.inr ⟨by rfl, rfl⟩) ?_ ?_
                                        rotate_left
                                        · simp only [Act.put, List.setIfInBounds_toArray, List.set_cons_zero, List.set_cons_succ, i64_w, i32_w]
                                          rfl
                                        refine pure_ (i := 11) (N := some 47) (v := undef) (a' := ?_) #[true, true, true, true, true, true, true, true, true, true, true, true, false, false, false, false, false, false, false, false, false, false, false] rfl rfl (any_of HT_.out (by kernel_rfl)) (fun _ _ _ h => h) (Or.inr ⟨by rfl, rfl⟩) ?_ ?_
                                        rotate_left
                                        · simp only [Act.put, List.setIfInBounds_toArray, List.set_cons_zero, List.set_cons_succ, i64_w, i32_w]
                                          rfl
                                        refine pure_ (i := 12) (N := some 48) (v := undef) (a' := ?_) #[true, true, true, true, true, true, true, true, true, true, true, true, true, false, false, false, false, false, false, false, false, false, false] rfl rfl (any_of HT_.out (by kernel_rfl)) (fun _ _ _ h => h) (Or.inr ⟨by rfl, rfl⟩) ?_ ?_
                                        rotate_left
                                        · simp only [Act.put, List.setIfInBounds_toArray, List.set_cons_zero, List.set_cons_succ, i64_w, i32_w]
                                          rfl
                                        refine pure_ (i := 13) (N := some 49) (v := ?_) (a' := ?_) #[true, true, true, true, true, true, true, true, true, true, true, true, true, true, false, false, false, false, false, false, false, false, false] rfl rfl (any_of HT_.out (by kernel_rfl)) (fun _ _ _ h => h) (Or.inl ⟨by rfl, ?_⟩) ?_ ?_
                                        rotate_left
                                        · intro w'
                                          go_simp
                                          with_reducible rfl
                                        rotate_left
                                        · simp only [Act.put, List.setIfInBounds_toArray, List.set_cons_zero, List.set_cons_succ, i64_w, i32_w]
                                          rfl
                                        refine pure_ (i := 14) (N := some 50) (v := ?_) (a' := ?_) #[true, true, true, true, true, true, true, true, true, true, true, true, true, true, true, false, false, false, false, false, false, false, false] rfl rfl (any_of HT_.out (by kernel_rfl)) (fun _ _ _ h => h) (Or.inl ⟨by rfl, ?_⟩) ?_ ?_
                                        rotate_left
                                        · intro w'
                                          go_simp
                                          with_reducible rfl
                                        rotate_left
                                        · simp only [Act.put, List.setIfInBounds_toArray, List.set_cons_zero, List.set_cons_succ, i64_w, i32_w]
                                          rfl
                                        refine pure_ (i := 15) (N := some 51) (v := undef) (a' := ?_) #[true, true, true, true, true, true, true, true, true, true, true, true, true, true, true, true, false, false, false, false, false, false, false] rfl rfl (any_of HT_.out (by kernel_rfl)) (fun _ _ _ h => h) (Or.inr ⟨by rfl, rfl⟩) ?_ ?_
                                        rotate_left
                                        · simp only [Act.put, List.setIfInBounds_toArray, List.set_cons_zero, List.set_cons_succ, i64_w, i32_w]
                                          rfl
                                        refine pure_ (i := 16) (N := some 52) (v := undef) (a' := ?_) #[true, true, true, true, true, true, true, true, true, true, true, true, true, true, true, true, true, false, false, false, false, false, false] rfl rfl (any_of HT_.out (by kernel_rfl)) (fun _ _ _ h => h) (Or.inr ⟨by rfl, rfl⟩) ?_ ?_
                                        rotate_left
                                        · simp only [Act.put, List.setIfInBounds_toArray, List.set_cons_zero, List.set_cons_succ, i64_w, i32_w]
                                          rfl
                                        refine pure_ (i := 17) (N := some 53) (v := undef) (a' := ?_) #[true, true, true, true, true, true, true, true, true, true, true, true, true, true, true, true, true, true, false, false, false, false, false] rfl rfl (any_of HT_.out (by kernel_rfl)) (fun _ _ _ h => h) (Or.inr ⟨by rfl, rfl⟩) ?_ ?_
                                        rotate_left
                                        · simp only [Act.put, List.setIfInBounds_toArray, List.set_cons_zero, List.set_cons_succ, i64_w, i32_w]
                                          rfl
                                        refine pure_ (i := 18) (N := some 54) (v := undef) (a' := ?_) #[true, true, true, true, true, true, true, true, true, true, true, true, true, true, true, true, true, true, true, false, false, false, false] rfl rfl (any_of HT_.out (by kernel_rfl)) (fun _ _ _ h => h) (Or.inr ⟨by rfl, rfl⟩) ?_ ?_
                                        rotate_left
                                        · simp only [Act.put, List.setIfInBounds_toArray, List.set_cons_zero, List.set_cons_succ, i64_w, i32_w]
                                          rfl
                                        refine pure_ (i := 19) (N := some 55) (v := undef) (a' := ?_) #[true, true, true, true, true, true, true, true, true, true, true, true, true, true, true, true, true, true, true, true, false, false, false] rfl rfl (any_of HT_.out (by kernel_rfl)) (fun _ _ _ h => h) (Or.inr ⟨by rfl, rfl⟩) ?_ ?_
                                        rotate_left
                                        · simp only [Act.put, List.setIfInBounds_toArray, List.set_cons_zero, List.set_cons_succ, i64_w, i32_w]
                                          rfl
                                        refine pure_ (i := 20) (N := some 56) (v := ?_) (a' := ?_) #[true, true, true, true, true, true, true, true, true, true, true, true, true, true, true, true, true, true, true, true, true, false, false] rfl rfl (any_of HT_.out (by kernel_rfl)) (fun _ _ _ h => h) (Or.inl ⟨by rfl, ?_⟩) ?_ ?_
                                        rotate_left
                                        · intro w'
                                          go_simp
                                          with_reducible rfl
                                        rotate_left
                                        · simp only [Act.put, List.setIfInBounds_toArray, List.set_cons_zero, List.set_cons_succ, i64_w, i32_w]
                                          rfl
                                        refine pure_ (i := 21) (N := some 57) (v := ?_) (a' := ?_) #[true, true, true, true, true, true, true, true, true, true, true, true, true, true, true, true, true, true, true, true, true, true, false] rfl rfl (any_of HT_.out (by kernel_rfl)) (fun _ _ _ h => h) (Or.inl ⟨by rfl, ?_⟩) ?_ ?_
                                        rotate_left
                                        · intro w'
                                          go_simp
                                          with_reducible rfl
                                        rotate_left
                                        · simp only [Act.put, List.setIfInBounds_toArray, List.set_cons_zero, List.set_cons_succ, i64_w, i32_w]
                                          rfl
                                        refine last_ (i := 22) (N := none) #[true, true, true, true, true, true, true, true, true, true, true, true, true, true, true, true, true, true, true, true, true, true, true] rfl rfl (one_of HT_.out (by kernel_rfl)) (by decide) (fun K hK => ?_)
                                        refine skip_ (w1 := ?_) (by rfl) rfl ?_ ?_
                                        rotate_left
                                        · go_simp
                                          rfl
                                        refine hK.out _ _ ?_
                                        clear hK K
                                        refine done_ (done_of HT_.out (by kernel_rfl)) ?_
                                        try go_wp2
                                        go_roundg k2
                                        case measure => have := HK1.out; have := HK2.out; omega
                                        case rel => exact ⟨(y165), (wrap64 (x9_2 - 1)), (by first | rfl | (simp; done) | (simp [*]; done)), H', ⟨by have := HK1.out; have := HK2.out; omega⟩, ⟨by (with_reducible repeat (first | apply Kd.R_alloc | apply Kd.R_drewN | apply Kd.R_drew)); exact Kd.R_mono (Kd.R_far (p := ⟨go84, (x9_2 : Int).toNat, none⟩) (Kd.R_mono HO_6.out (fun k_ hk => (⟨hk, fun e_ => hk (by rw [e_]; rfl)⟩ : _ ∧ k_ ≠ go84))) (fun _ hk => hk.2) (.bool false)) (fun _ hk => hk.1)⟩, ⟨by (with_reducible repeat (first | apply Kd.R_alloc | apply Kd.R_drewN | apply Kd.R_drew)); exact HQ86.out⟩, ⟨by repeat (first | (with_reducible first | exact HB.out | apply below_alloc | apply pw_below_drewN | apply below_drew1 | refine below_set ?_ GB84.out) | exact HB.out)⟩⟩
                                      · rw [if_neg c83] at H
                                        exact absurd H (by simp)
                                    · rw [if_neg c82] at H
                                      exact absurd H (by simp)
                            · rw [if_neg c21] at H
                              exact absurd H (by simp)
                          · rw [if_neg c20] at H
                            exact absurd H (by simp)
                        · rw [if_neg c19] at H
                          have c19b0 : decide (0 ≤ x9_2) = false := decide_eq_false c19
                          clear c19
                          have H' := Aside0.mk H
                          clear H
                          go_wp2
                          go_roundg k2
                          case measure => have := HK1.out; have := HK2.out; omega
                          case rel => exact ⟨(x8_2), (wrap64 (x7_1 - 1)), (by first | rfl | (simp; done) | (simp [*]; done)), H', ⟨by have := HK1.out; have := HK2.out; omega⟩, ⟨by (with_reducible repeat (first | apply Kd.R_alloc | apply Kd.R_drewN | apply Kd.R_drew)); exact Kd.R_mono HO_8.out (fun _ hk => trivial)⟩, ⟨by repeat (first | (with_reducible first | exact HB.out | apply below_alloc | apply pw_below_drewN | apply below_drew1) | exact HB.out)⟩⟩
                  · rw [if_neg c16] at H
                    exact absurd H (by simp)
                · rw [if_neg c15] at H
                  exact absurd H (by simp)
              · rw [if_neg c13] at H
                have c13b0 : decide (0 ≤ x7_1) = false := decide_eq_false c13
                clear c13
                by_cases c87 : 0 < (x6_1.length : Int)
                · rw [if_pos c87] at H
                  have c87b0 : decide (0 < (x6_1.length : Int)) = true := decide_eq_true c87
                  have c87b1 : decide (0 < x6_1.length) = true := decide_eq_true (by omega)
                  clear c87
                  obtain rfl := Option.some.inj H
                  obtain ⟨Ao88, co88, eo88⟩ := Kd.R_slice HO_6.out
                  subst eo88
                  have p150 : 0 ≤ (0 : Int) := (by omega)
                  have q150 : 0 < (x6_1.length : Int) := of_decide_eq_true (by first | (with_reducible assumption) | assumption)
                  obtain ⟨ad150, e150, hx150_0⟩ := Kd.at_bool (Kd.R_reads' HO_6.out).2.2 0 p150 q150
                  cases e150
                  have qi150 : (0 < x6_1.length) = True := eq_true (by omega)
                  (try rw [show ((0 : Int)).toNat = 0 from rfl] at hx150_0)
                  (try rw [Addr.add_zero'] at hx150_0)
                  replace p150 := eq_true p150
                  replace q150 := eq_true q150
                  go_wp2
                  go_ret
                  exact ⟨by first | rfl | (simp [errW_none, errW_some] <;> rfl) | (simp only [← hji3]; first | rfl | (simp [errW_none, errW_some] <;> rfl)) | (simp [*, errW_none, errW_some] <;> rfl), by repeat (first | (with_reducible first | exact HB.out | apply below_alloc | apply pw_below_drewN | apply below_drew1) | exact HB.out)⟩
                · rw [if_neg c87] at H
                  exact absurd H (by simp)
        · rw [if_neg c7] at H
          exact absurd H (by simp)
      · rw [if_neg c6] at H
        exact absurd H (by simp)
    · rw [if_neg c5] at H
      exact absurd H (by simp)
  · rw [if_neg c4] at H
    exact absurd H (by simp)

end Go.Proofs.YtlmkhpgnkpgbdaaDoor.PVLP

namespace Go.Proofs.YtlmkhpgnkpgbdaaDoor.PVLP
open Go.RowKit Go.Proofs.YtlmkhpgnkpgbdaaDoorW.PrintWords Go.Proofs.YtlmkhpgnkpgbdaaDoorW.PrintLast Go.Proofs.YtlmkhpgnkpgbdaaDoorW.PrintMore
attribute [local go_sem] max2_int min2_int max_two min_two max_three min_three max_four min_four   -- for this text's walks alone
set_option linter.unusedVariables false
set_option linter.unusedSimpArgs false

/-! ### stilelaw01_ValueLikes: function 3 -/
def stilelaw01_ValueLikes.j0 : Nat → ByteArray → ByteArray → Bool → Option (Bool)
  | 0, _, _, _ => none
  | k + 1, x0, x1, x12 => if x12 = true then ((stilelaw01_alive.f k).bind fun t166 => (some t166)) else ((stilelaw01_alive.f k).bind fun t167 => (if t167 = true then ((value_Like.f k x0 x1).bind fun t168 => ((stileref01_Like.f k x0 x1).bind fun t169 => (some (t168 == t169)))) else (some false)))
def stilelaw01_ValueLikes.f (k : Nat) (a0 : ByteArray) (a1 : ByteArray) : Option (Bool) := if (a0.size : Int) > 400 then (stilelaw01_ValueLikes.j0 k a0 a1 true) else (stilelaw01_ValueLikes.j0 k a0 a1 (decide ((a1.size : Int) > 400)))
theorem stilelaw01_ValueLikes.mono_l : ∀ k, (∀ y0 y1 y2, LeO (stilelaw01_ValueLikes.j0 k y0 y1 y2) (stilelaw01_ValueLikes.j0 (k + 1) y0 y1 y2))
  | 0 => fun _ _ _ r h => by simp [stilelaw01_ValueLikes.j0] at h
  | k + 1 => by
    have ih0 := stilelaw01_ValueLikes.mono_l k
    · intro y0 y1 y2
      unfold stilelaw01_ValueLikes.j0
      repeat' first
      | (with_reducible exact ih0 _ _ _)
      | (with_reducible exact stilelaw01_alive.mono _)
      | (with_reducible exact stileref01_Like.mono _ _ _)
      | (with_reducible exact value_Like.mono _ _ _)
      | (with_reducible exact LeO.refl _)
      | (with_reducible exact LeO.none _)
      | (with_reducible refine LeO.ite ?_ ?_)
      | (with_reducible refine LeO.bind ?_ (fun _ => ?_))
      | exact ih0 _ _ _
      | exact stilelaw01_alive.mono _
      | exact stileref01_Like.mono _ _ _
      | exact value_Like.mono _ _ _
      | exact LeO.none _
      | refine LeO.ite ?_ ?_
      | refine LeO.bind ?_ (fun _ => ?_)
theorem stilelaw01_ValueLikes.mono : ∀ a0 a1 k, LeO (stilelaw01_ValueLikes.f k a0 a1) (stilelaw01_ValueLikes.f (k + 1) a0 a1) := by
  intro a0 a1 k
  have ih0 := stilelaw01_ValueLikes.mono_l k
  unfold stilelaw01_ValueLikes.f
  repeat' first
      | (with_reducible exact ih0 _ _ _)
      | (with_reducible exact stilelaw01_alive.mono _)
      | (with_reducible exact stileref01_Like.mono _ _ _)
      | (with_reducible exact value_Like.mono _ _ _)
      | (with_reducible exact LeO.refl _)
      | (with_reducible exact LeO.none _)
      | (with_reducible refine LeO.ite ?_ ?_)
      | (with_reducible refine LeO.bind ?_ (fun _ => ?_))
      | exact ih0 _ _ _
      | exact stilelaw01_alive.mono _
      | exact stileref01_Like.mono _ _ _
      | exact value_Like.mono _ _ _
      | exact LeO.none _
      | refine LeO.ite ?_ ?_
      | refine LeO.bind ?_ (fun _ => ?_)
set_option maxHeartbeats 8000000 in
set_option maxRecDepth 100000 in
theorem stilelaw01_ValueLikes.calls (k : Nat) (a0 : ByteArray) (a1 : ByteArray) (r : Bool) (w : World) (h : stilelaw01_ValueLikes.f k a0 a1 = some r) :
    Calls Tryd.prog 3 #[.string a0, .string a1] w fun e w' => e = .returned (.bool r) ∧ Below w.heap.size w w' := by
  have HB := Aside0.mk (Below.refl w.heap.size w)
  have H : (if (a0.size : Int) > 400 then (stilelaw01_ValueLikes.j0 k a0 a1 true) else (stilelaw01_ValueLikes.j0 k a0 a1 (decide ((a1.size : Int) > 400)))) = some r := h
  clear h
  have HC3 := Aside0.mk H
  clear H
  go_enter Tryd.func3, Tryd.ntmps3
  go_upto_region 1 with (fail)
  go_cut [12] (fun v12 wc => ∃ (kq : Nat) (x12_2 : Bool), v12 = .bool x12_2 ∧ Aside0 (stilelaw01_ValueLikes.j0 kq a0 a1 x12_2 = some r) ∧ Aside0 (kq ≤ k) ∧ Aside0 (Below w.heap.size w wc))
  case first =>
    have H := HC3.out
    clear HC3
    by_cases c4 : (a0.size : Int) > 400
    · rw [if_pos c4] at H
      have c4b0 : decide (400 < (a0.size : Int)) = true := decide_eq_true c4
      have c4b1 : decide (400 < a0.size) = true := decide_eq_true (by omega)
      clear c4
      (first | rw [c4b0] | (simp only [i64_w, i32_w]; rw [c4b0]) | skip)
      have H' := Aside0.mk H
      clear H
      go_wp2
      go_meet
      case rel => exact ⟨_, (true), (by first | rfl | (simp; done) | (simp [*]; done)), H', ⟨by first | omega | exact Nat.le_refl _⟩, ⟨by repeat (first | (with_reducible first | exact HB.out | apply below_alloc | apply pw_below_drewN | apply below_drew1) | exact HB.out)⟩⟩
    · rw [if_neg c4] at H
      have c4b0 : decide (400 < (a0.size : Int)) = false := decide_eq_false c4
      have c4b1 : decide (400 < a0.size) = false := decide_eq_false (by omega)
      clear c4
      (first | rw [c4b0] | (simp only [i64_w, i32_w]; rw [c4b0]) | skip)
      have H' := Aside0.mk H
      clear H
      go_wp2
      go_meet
      case rel => exact ⟨_, (decide ((a1.size : Int) > 400)), (by first | rfl | (simp; done) | (simp [*]; done)), H', ⟨by first | omega | exact Nat.le_refl _⟩, ⟨by repeat (first | (with_reducible first | exact HB.out | apply below_alloc | apply pw_below_drewN | apply below_drew1) | exact HB.out)⟩⟩
  case rest =>
    clear HC3
    try clear p2
    try clear c3
    try clear c4
    try clear c4b0
    try clear c4b1
    obtain ⟨kq, x12_2, rfl, HA, HJ2, HB⟩ := hcut
    cases kq with
    | zero => exact absurd HA.out (by simp [stilelaw01_ValueLikes.j0])
    | succ kj2 =>
      have H := HA.out
      clear HA
      simp only [stilelaw01_ValueLikes.j0] at H
      by_cases c5 : x12_2 = true
      · subst c5
        have H1 : ((stilelaw01_alive.f kj2).bind fun t166 => (some t166)) = some r := by rw [if_pos rfl] at H; exact H
        clear H
        have H := H1
        clear H1
        replace H := Option.bind_eq_some_iff.mp H
        obtain ⟨t166, A60, H⟩ := H
        replace H : (some t166) = some r := H
        have A6 := Aside0.mk A60
        clear A60
        obtain rfl := Option.some.inj H
        go_wp2_with (first | ((with_reducible refine gate_callee (f := 12) rfl ?_); refine goesL_ (some 13) rfl rfl Tryd.func12 (by kernel_rfl) rfl #[] rfl (by (try simp only [List.map_toArray, List.map_cons, List.map_nil]); first | done | rfl | (simp only [List.length_drop, List.length_take]; rfl)) ?_; (with_reducible refine (stilelaw01_alive.calls kj2  t166 _ A6.out).mono ?_); rintro e w7 ⟨rfl, hb⟩; refine ⟨_, rfl, ?_⟩; have n0_ := Aside0.mk (below_step (by repeat (first | (with_reducible first | exact HB.out | apply below_alloc | apply pw_below_drewN | apply below_drew1) | exact HB.out)) hb); clear HB; have HB := n0_; clear n0_; (try clear hb); (try clear hb2); (try clear hk); (try clear hi)))
        go_ret
        exact ⟨by first | rfl | (simp [errW_none, errW_some] <;> rfl) | (simp [*, errW_none, errW_some] <;> rfl), by repeat (first | (with_reducible first | exact HB.out | apply below_alloc | apply pw_below_drewN | apply below_drew1) | exact HB.out)⟩
      · replace c5 := Bool.eq_false_iff.mpr c5
        subst c5
        have H1 : ((stilelaw01_alive.f kj2).bind fun t167 => (if t167 = true then ((value_Like.f kj2 a0 a1).bind fun t168 => ((stileref01_Like.f kj2 a0 a1).bind fun t169 => (some (t168 == t169)))) else (some false))) = some r := by rw [if_neg (show ¬ (false = true) by decide)] at H; exact H
        clear H
        have H := H1
        clear H1
        replace H := Option.bind_eq_some_iff.mp H
        obtain ⟨t167, A80, H⟩ := H
        replace H : (if t167 = true then ((value_Like.f kj2 a0 a1).bind fun t168 => ((stileref01_Like.f kj2 a0 a1).bind fun t169 => (some (t168 == t169)))) else (some false)) = some r := H
        have A8 := Aside0.mk A80
        clear A80
        by_cases c9 : t167 = true
        · subst c9
          have H1 : ((value_Like.f kj2 a0 a1).bind fun t168 => ((stileref01_Like.f kj2 a0 a1).bind fun t169 => (some (t168 == t169)))) = some r := by rw [if_pos rfl] at H; exact H
          clear H
          have H := H1
          clear H1
          replace H := Option.bind_eq_some_iff.mp H
          obtain ⟨t168, A100, H⟩ := H
          replace H : ((stileref01_Like.f kj2 a0 a1).bind fun t169 => (some (t168 == t169))) = some r := H
          have A10 := Aside0.mk A100
          clear A100
          replace H := Option.bind_eq_some_iff.mp H
          obtain ⟨t169, A110, H⟩ := H
          replace H : (some (t168 == t169)) = some r := H
          have A11 := Aside0.mk A110
          clear A110
          obtain rfl := Option.some.inj H
          go_wp2_with (first | ((with_reducible refine gate_callee (f := 12) rfl ?_); refine goesL_ (some 14) rfl rfl Tryd.func12 (by kernel_rfl) rfl #[] rfl (by (try simp only [List.map_toArray, List.map_cons, List.map_nil]); first | done | rfl | (simp only [List.length_drop, List.length_take]; rfl)) ?_; (with_reducible refine (stilelaw01_alive.calls kj2  true _ A8.out).mono ?_); rintro e w12 ⟨rfl, hb⟩; refine ⟨_, rfl, ?_⟩; have n0_ := Aside0.mk (below_step (by repeat (first | (with_reducible first | exact HB.out | apply below_alloc | apply pw_below_drewN | apply below_drew1) | exact HB.out)) hb); clear HB; have HB := n0_; clear n0_; (try clear hb); (try clear hb2); (try clear hk); (try clear hi)) | (go_at_call 13; (with_reducible refine (value_Like.calls kj2 a0 a1 t168 _ A10.out).mono ?_); rintro e w13 ⟨rfl, hb⟩; have n0_ := Aside0.mk (below_step (by repeat (first | (with_reducible first | exact HB.out | apply below_alloc | apply pw_below_drewN | apply below_drew1) | exact HB.out)) hb); clear HB; have HB := n0_; clear n0_; (try clear hb); (try clear hb2); (try clear hk); (try clear hi)) | (go_at_call 14; (with_reducible refine (stileref01_Like.calls kj2 a0 a1 t169 _ A11.out).mono ?_); rintro e w14 ⟨rfl, hb⟩; have n0_ := Aside0.mk (below_step (by repeat (first | (with_reducible first | exact HB.out | apply below_alloc | apply pw_below_drewN | apply below_drew1) | exact HB.out)) hb); clear HB; have HB := n0_; clear n0_; (try clear hb); (try clear hb2); (try clear hk); (try clear hi)))
          go_ret
          exact ⟨by first | rfl | (simp [errW_none, errW_some] <;> rfl) | (simp [*, errW_none, errW_some] <;> rfl), by repeat (first | (with_reducible first | exact HB.out | apply below_alloc | apply pw_below_drewN | apply below_drew1) | exact HB.out)⟩
        · replace c9 := Bool.eq_false_iff.mpr c9
          subst c9
          have H1 : (some false) = some r := by rw [if_neg (show ¬ (false = true) by decide)] at H; exact H
          clear H
          have H := H1
          clear H1
          obtain rfl := Option.some.inj H
          go_wp2_with (first | ((with_reducible refine gate_callee (f := 12) rfl ?_); refine goesL_ (some 14) rfl rfl Tryd.func12 (by kernel_rfl) rfl #[] rfl (by (try simp only [List.map_toArray, List.map_cons, List.map_nil]); first | done | rfl | (simp only [List.length_drop, List.length_take]; rfl)) ?_; (with_reducible refine (stilelaw01_alive.calls kj2  false _ A8.out).mono ?_); rintro e w15 ⟨rfl, hb⟩; refine ⟨_, rfl, ?_⟩; have n0_ := Aside0.mk (below_step (by repeat (first | (with_reducible first | exact HB.out | apply below_alloc | apply pw_below_drewN | apply below_drew1) | exact HB.out)) hb); clear HB; have HB := n0_; clear n0_; (try clear hb); (try clear hb2); (try clear hk); (try clear hi)))
          go_ret
          exact ⟨by first | rfl | (simp [errW_none, errW_some] <;> rfl) | (simp [*, errW_none, errW_some] <;> rfl), by repeat (first | (with_reducible first | exact HB.out | apply below_alloc | apply pw_below_drewN | apply below_drew1) | exact HB.out)⟩

/-- THE ONE PURE STATEMENT of stilelaw01_ValueLikes: yours. -/
def stilelaw01_ValueLikes.Pure : Prop := ∀ (a0 : ByteArray) (a1 : ByteArray), a0.size ≤ 140737488351232 → a1.size ≤ 140737488351232 → ∃ k, stilelaw01_ValueLikes.f k a0 a1 = some true
theorem stilelaw01_ValueLikes.walk (P : stilelaw01_ValueLikes.Pure) (a0 : ByteArray) (a1 : ByteArray) (w : World) (w0 : a0.size ≤ 140737488351232) (w1 : a1.size ≤ 140737488351232) :
    Calls Tryd.prog 3 #[.string a0, .string a1] w fun e w' => e = .returned (.bool true) ∧ Below w.heap.size w w' := by
  obtain ⟨k, h⟩ := P a0 a1 w0 w1
  refine (stilelaw01_ValueLikes.calls k a0 a1 true w h).mono ?_
  rintro e w' ⟨rfl, hd⟩
  exact ⟨rfl, hd⟩

end Go.Proofs.YtlmkhpgnkpgbdaaDoor.PVLP

namespace Go.Proofs.YtlmkhpgnkpgbdaaDoor
open Go.RowKit Go.Proofs.YtlmkhpgnkpgbdaaDoor.PVLP Go.Proofs.YtlmkhpgnkpgbdaaDoorW.PrintWords Go.Proofs.YtlmkhpgnkpgbdaaDoorW.PrintLast
set_option linter.unusedVariables false
set_option linter.unusedSimpArgs false
namespace Lk
/-- does a sign stand for a byte? -/
def one (c d : Int) : Prop := c = 95 ∨ c = d
/-- a text follows a pattern -/
def mat : List Int → List Int → Prop
  | [], t => t = []
  | c :: p, t => if c = 37 then ∃ j, j ≤ t.length ∧ mat p (t.drop j) else ∃ d u, t = d :: u ∧ one c d ∧ mat p u
theorem mat_star (p t : List Int) : mat (37 :: p) t ↔ ∃ j, j ≤ t.length ∧ mat p (t.drop j) := by simp [mat]
theorem mat_sign {c : Int} (h : ¬ c = 37) (p t : List Int) : mat (c :: p) t ↔ ∃ d u, t = d :: u ∧ one c d ∧ mat p u := by simp [mat, h]
theorem mat_nil : ∀ p : List Int, mat p [] ↔ ∀ c ∈ p, c = 37
  | [] => by simp [mat]
  | c :: p => by
    by_cases h : c = 37
    · subst h
      rw [mat_star]
      simp [mat_nil p]
    · rw [mat_sign h]
      simp [h]
/-- signs that are no star, one behind the other -/
def segs : List Int → List Int → Prop
  | [], u => u = []
  | c :: s, u => ∃ d v, u = d :: v ∧ ¬ c = 37 ∧ one c d ∧ segs s v
theorem seg_len : ∀ {s u : List Int}, segs s u → u.length = s.length
  | [], u, h => by simp [segs] at h; simp [h]
  | c :: s, u, ⟨d, v, e, _, _, h⟩ => by subst e; simp [seg_len h]
theorem seg_snoc : ∀ {s u : List Int} {c d : Int}, segs s u → ¬ c = 37 → one c d → segs (s ++ [c]) (u ++ [d])
  | [], u, c, d, h, h1, h2 => by
    simp [segs] at h
    subst h
    exact ⟨d, [], rfl, h1, h2, rfl⟩
  | a :: s, u, c, d, ⟨e, v, hu, g1, g2, g3⟩, h1, h2 => by
    subst hu
    exact ⟨e, v ++ [d], rfl, g1, g2, seg_snoc g3 h1 h2⟩
/-- where signs stand for a piece, the rest decides -/
theorem seg_mat : ∀ {s u : List Int} (r t : List Int), segs s u → (mat (s ++ r) (u ++ t) ↔ mat r t)
  | [], u, r, t, h => by simp [segs] at h; subst h; rfl
  | c :: s, u, r, t, ⟨d, v, e, g1, g2, g3⟩ => by
    subst e
    rw [List.cons_append, List.cons_append, mat_sign g1]
    constructor
    · rintro ⟨d', v', e, _, h⟩
      cases e
      exact (seg_mat r t g3).1 h
    · intro h
      exact ⟨d, v ++ t, rfl, g2, (seg_mat r t g3).2 h⟩
/-- signs take as many bytes as they are -/
theorem mat_drop : ∀ {s u : List Int} (r t : List Int), segs s u → mat (s ++ r) t → s.length ≤ t.length ∧ mat r (t.drop s.length)
  | [], u, r, t, _, h => ⟨by simp, h⟩
  | c :: s, u, r, t, ⟨d, v, e, g1, g2, g3⟩, h => by
    rw [List.cons_append, mat_sign g1] at h
    obtain ⟨d', u', e', _, h⟩ := h
    subst e'
    obtain ⟨h1, h2⟩ := mat_drop r u' g3 h
    exact ⟨by simp; omega, by simpa using h2⟩
theorem mat_append : ∀ {p q a b : List Int}, mat p a → mat q b → mat (p ++ q) (a ++ b)
  | [], q, a, b, h, g => by simp [mat] at h; subst h; exact g
  | c :: p, q, a, b, h, g => by
    by_cases hc : c = 37
    · subst hc
      rw [mat_star] at h
      obtain ⟨j, hj, h⟩ := h
      rw [List.cons_append, mat_star]
      refine ⟨j, by simp; omega, ?_⟩
      rw [List.drop_append_of_le_length hj]
      exact mat_append h g
    · rw [mat_sign hc] at h
      obtain ⟨d, u, rfl, h1, h2⟩ := h
      rw [List.cons_append, mat_sign hc]
      exact ⟨d, u ++ b, rfl, h1, mat_append h2 g⟩
theorem mat_self : ∀ a : List Int, (∀ c ∈ a, ¬ c = 37) → mat a a
  | [], _ => rfl
  | c :: a, h => by
    rw [mat_sign (h c (by simp))]
    exact ⟨c, a, rfl, .inr rfl, mat_self a (fun d hd => h d (by simp [hd]))⟩
theorem mat_all (a : List Int) : mat [37] a := by
  rw [mat_star]
  exact ⟨a.length, Nat.le_refl _, by simp [mat]⟩
theorem mat_star' (p t : List Int) (j : Nat) : mat (37 :: p) (t.drop j) ↔ mat p (t.drop j) ∨ (j < t.length ∧ mat (37 :: p) (t.drop (j + 1))) := by
  rw [mat_star, mat_star]
  simp only [List.drop_drop, List.length_drop]
  constructor
  · rintro ⟨i, hi, h⟩
    cases i with
    | zero => exact .inl h
    | succ i => exact .inr ⟨by omega, i, by omega, by rw [show j + 1 + i = j + (i + 1) by omega]; exact h⟩
  · rintro (h | ⟨hj, i, hi, h⟩)
    · exact ⟨0, by omega, h⟩
    · exact ⟨i + 1, by omega, by rw [show j + (i + 1) = j + 1 + i by omega]; exact h⟩
theorem mat_at {c : Int} (h : ¬ c = 37) (p t : List Int) (j : Nat) : mat (c :: p) (t.drop j) ↔ ∃ hj : j < t.length, one c t[j] ∧ mat p (t.drop (j + 1)) := by
  rw [mat_sign h]
  constructor
  · rintro ⟨d, u, e, h1, h2⟩
    have hj : j < t.length := by
      have := congrArg List.length e
      rw [List.length_drop] at this
      simp at this
      omega
    rw [List.drop_eq_getElem_cons hj] at e
    cases e
    exact ⟨hj, h1, h2⟩
  · rintro ⟨hj, h1, h2⟩
    exact ⟨t[j], t.drop (j + 1), List.drop_eq_getElem_cons hj, h1, h2⟩
/-- a star stands at s, and its text from f on; the signs behind it stand for what is from there up to i -/
structure Inv (T P : List Int) (i k s f : Nat) : Prop where
  fi : f ≤ i
  iT : i ≤ T.length
  sk : s < k
  kP : k ≤ P.length
  len : i - f = k - (s + 1)
  seg : segs ((P.drop (s + 1)).take (k - (s + 1))) ((T.drop f).take (i - f))
/-- what is still to be found -/
def Goal (T P : List Int) (s f : Nat) : Prop := ∃ j, f ≤ j ∧ j ≤ T.length ∧ mat (P.drop (s + 1)) (T.drop j)
theorem Inv.split {T P : List Int} {i k s f : Nat} (h : Inv T P i k s f) : P.drop (s + 1) = (P.drop (s + 1)).take (k - (s + 1)) ++ P.drop k ∧ T.drop f = (T.drop f).take (i - f) ++ T.drop i := by
  constructor
  · have := List.take_append_drop (k - (s + 1)) (P.drop (s + 1))
    rw [List.drop_drop, show s + 1 + (k - (s + 1)) = k by have := h.sk; omega] at this
    exact this.symm
  · have := List.take_append_drop (i - f) (T.drop f)
    rw [List.drop_drop, show f + (i - f) = i by have := h.fi; omega] at this
    exact this.symm
/-- here, or later -/
theorem Inv.here {T P : List Int} {i k s f : Nat} (h : Inv T P i k s f) : mat (P.drop (s + 1)) (T.drop f) ↔ mat (P.drop k) (T.drop i) := by
  have e := seg_mat (P.drop k) (T.drop i) h.seg
  rw [← h.split.1, ← h.split.2] at e
  exact e
theorem goal_or {T P : List Int} {s f : Nat} (hf : f ≤ T.length) : Goal T P s f ↔ mat (P.drop (s + 1)) (T.drop f) ∨ (f < T.length ∧ Goal T P s (f + 1)) := by
  constructor
  · rintro ⟨j, h1, h2, h3⟩
    by_cases h : j = f
    · subst h; exact .inl h3
    · exact .inr ⟨by omega, j, by omega, h2, h3⟩
  · rintro (h | ⟨_, j, h1, h2, h3⟩)
    · exact ⟨f, Nat.le_refl _, hf, h⟩
    · exact ⟨j, by omega, h2, h3⟩
theorem Inv.begin {T P : List Int} {s i : Nat} (hi : i ≤ T.length) (hs : s < P.length) : Inv T P i (s + 1) s i :=
  ⟨Nat.le_refl _, hi, by omega, hs, by omega, by simp [segs]⟩
theorem Inv.star {T P : List Int} {i k s f : Nat} (h : Inv T P i k s f) (hk : k < P.length) (hc : P[k] = 37) : Goal T P s f ↔ Goal T P k i := by
  have hd : P.drop k = 37 :: P.drop (k + 1) := by rw [List.drop_eq_getElem_cons hk, hc]
  have hT := h.iT
  have hfi := h.fi
  constructor
  · rintro ⟨j, h1, h2, h3⟩
    rw [h.split.1] at h3
    obtain ⟨g1, g2⟩ := mat_drop _ _ h.seg h3
    rw [List.drop_drop, hd, mat_star] at g2
    obtain ⟨m, g3, g4⟩ := g2
    rw [List.length_drop] at g1 g3
    rw [List.drop_drop] at g4
    have hl : ((P.drop (s + 1)).take (k - (s + 1))).length = i - f := by
      rw [List.length_take, List.length_drop]
      have := h.len
      have := h.kP
      omega
    rw [hl] at g1 g3 g4
    exact ⟨j + (i - f) + m, by omega, by omega, g4⟩
  · rintro ⟨j, h1, h2, h3⟩
    refine ⟨f, Nat.le_refl _, by omega, ?_⟩
    rw [h.here, hd, mat_star]
    refine ⟨j - i, by rw [List.length_drop]; omega, ?_⟩
    rw [List.drop_drop, show i + (j - i) = j by omega]
    exact h3
theorem Inv.step {T P : List Int} {i k s f : Nat} (h : Inv T P i k s f) (hk : k < P.length) (hi : i < T.length) (hc : ¬ P[k] = 37) (ho : one P[k] T[i]) : Inv T P (i + 1) (k + 1) s f := by
  have h1 := h.fi
  have h2 := h.sk
  have h3 := h.len
  refine ⟨by omega, by omega, by omega, by omega, by omega, ?_⟩
  have e1 : (P.drop (s + 1)).take (k + 1 - (s + 1)) = (P.drop (s + 1)).take (k - (s + 1)) ++ [P[k]] := by
    rw [show k + 1 - (s + 1) = (k - (s + 1)) + 1 by omega, List.take_succ_eq_append_getElem (by rw [List.length_drop]; omega)]
    congr 2
    rw [List.getElem_drop]
    congr 1
    omega
  have e2 : (T.drop f).take (i + 1 - f) = (T.drop f).take (i - f) ++ [T[i]] := by
    rw [show i + 1 - f = (i - f) + 1 by omega, List.take_succ_eq_append_getElem (by rw [List.length_drop]; omega)]
    congr 2
    rw [List.getElem_drop]
    congr 1
    omega
  rw [e1, e2]
  exact seg_snoc h.seg hc ho
theorem Inv.fail {T P : List Int} {i k s f : Nat} (h : Inv T P i k s f) (hi : i < T.length) (hn : ∀ hk : k < P.length, ¬ P[k] = 37 ∧ ¬ one P[k] T[i]) : Goal T P s f ↔ Goal T P s (f + 1) := by
  have h1 := h.fi
  rw [goal_or (by omega), h.here]
  constructor
  · rintro (g | ⟨_, g⟩)
    · exfalso
      by_cases hk : k < P.length
      · rw [List.drop_eq_getElem_cons hk, mat_at (hn hk).1] at g
        obtain ⟨_, g, _⟩ := g
        exact (hn hk).2 g
      · rw [List.drop_of_length_le (by omega)] at g
        have := congrArg List.length (show T.drop i = [] from g)
        rw [List.length_drop] at this
        simp at this
        omega
    · exact g
  · intro g
    exact .inr ⟨by omega, g⟩
theorem Inv.done {T P : List Int} {k s f : Nat} (h : Inv T P T.length k s f) : Goal T P s f ↔ ∀ c ∈ P.drop k, c = 37 := by
  have h1 := h.fi
  have e : T.drop T.length = [] := List.drop_of_length_le (Nat.le_refl _)
  rw [← mat_nil, ← e, ← h.here]
  constructor
  · rintro ⟨j, g1, g2, g3⟩
    have g4 := g3
    rw [h.split.1] at g4
    obtain ⟨g5, _⟩ := mat_drop _ _ h.seg g4
    have hl : ((P.drop (s + 1)).take (k - (s + 1))).length = T.length - f := by
      rw [List.length_take, List.length_drop]
      have := h.len
      have := h.kP
      omega
    rw [hl, List.length_drop] at g5
    obtain rfl : j = f := by omega
    exact g3
  · intro g
    exact ⟨f, Nat.le_refl _, h1, g⟩
end Lk
end Go.Proofs.YtlmkhpgnkpgbdaaDoor

namespace Go.Proofs.YtlmkhpgnkpgbdaaDoor
open Go.RowKit Go.Proofs.YtlmkhpgnkpgbdaaDoor.PVLP Go.Proofs.YtlmkhpgnkpgbdaaDoorW.PrintWords Go.Proofs.YtlmkhpgnkpgbdaaDoorW.PrintLast
set_option linter.unusedVariables false
set_option linter.unusedSimpArgs false
namespace Lk
theorem w64 (i : Int) (h0 : -9223372036854775808 ≤ i) (h1 : i ≤ 9223372036854775807) : wrap64 i = i := by unfold wrap64; omega
theorem w1 (i : Nat) (h : i < 1000000) : wrap64 ((i : Int) + 1) = ((i + 1 : Nat) : Int) := by rw [w64 _ (by omega) (by omega)]; omega
theorem bt_nat (s : ByteArray) (i : Nat) (h : i < (bytesOf s).length) : bt s (i : Int) = (bytesOf s)[i] := by
  have := rd_bytesOf s (i : Int)
  rw [← this]
  simp [rd, h]
theorem bytesOf_size (s : ByteArray) : (bytesOf s).length = s.size := bytesOf_length s
theorem bytesOf_ext (s : ByteArray) (i : Nat) : bytesOf (s.extract i s.size) = (bytesOf s).drop i := by
  apply List.ext_getElem
  · rw [List.length_drop, bytesOf_size, bytesOf_size, ByteArray.size_extract]
    omega
  · intro n h1 h2
    have h3 := h1
    rw [bytesOf_size] at h3
    rw [List.getElem_drop, ← bt_nat _ _ h1, ← bt_nat _ _ (by rw [List.length_drop] at h2; omega)]
    have h4 := h3
    rw [ByteArray.size_extract] at h4
    simp only [bt, Int.toNat_natCast]
    rw [dif_pos h3, dif_pos (by omega)]
    congr 2
    exact ByteArray.getElem_extract _
theorem at_bytes (s : ByteArray) (i : Nat) (h : i < s.size) : (s[i].toNat : Int) = (bytesOf s)[i]'(by rw [bytesOf_size]; exact h) := by
  rw [← bt_nat s i (by rw [bytesOf_size]; exact h)]
  simp [bt, h]
theorem trimN_zero (s : ByteArray) (c : Int) : ∀ n, n ≤ s.size → (Vl.trimN s c n = 0 ↔ ∀ d ∈ (bytesOf s).take n, d = c)
  | 0, _ => by simp [Vl.trimN]
  | n + 1, h => by
    have hl := bytesOf_size s
    have e : (bytesOf s).take (n + 1) = (bytesOf s).take n ++ [(bytesOf s)[n]'(by omega)] := List.take_succ_eq_append_getElem (by omega)
    rw [e]
    have ih := trimN_zero s c n (by omega)
    have hs := at_bytes s n (by omega)
    by_cases hc : (bytesOf s)[n]'(by omega) = c
    · rw [Vl.trimN_yes s c (n + 1) (by omega) (by omega) (by simpa [hs] using hc)]
      simp only [Nat.add_sub_cancel, List.mem_append, List.mem_singleton]
      rw [ih]
      constructor
      · rintro g d (hd | rfl)
        · exact g d hd
        · exact hc
      · exact fun g d hd => g d (.inl hd)
    · rw [Vl.trimN_no s c (n + 1) (by omega) (by omega) (by simpa [hs] using hc)]
      constructor
      · intro g; omega
      · intro g
        exact absurd (g _ (List.mem_append.2 (.inr (by simp)))) hc
theorem trimL_pos (x : ByteArray) (c : Int) (i : Nat) (hi : i < x.size) (h : ¬ (x[i].toNat : Int) = c) : ∀ n, n = i → 0 < (Vl.trimL x c).size := by
  intro n
  induction n generalizing x i with
  | zero =>
    rintro rfl
    rw [Vl.trimL_no x c hi h]
    exact hi
  | succ n ih =>
    rintro rfl
    by_cases h0 : ((x[0]'(by omega)).toNat : Int) = c
    · rw [← Vl.trimL_yes x c (by omega) h0]
      have hz : n < (x.extract 1 x.size).size := by rw [ByteArray.size_extract]; omega
      refine ih (x.extract 1 x.size) n hz ?_ rfl
      have e : (x.extract 1 x.size)[n] = x[n + 1] := by
        rw [ByteArray.getElem_extract]
        congr 1
        omega
      rw [e]
      exact h
    · rw [Vl.trimL_no x c (by omega) h0]
      omega
theorem size_toList (s : ByteArray) : s.toList = [] ↔ s.size = 0 := by
  rw [ByteArray.toList_eq]
  constructor
  · intro h
    have := congrArg List.length h
    simpa using this
  · intro h
    exact List.eq_nil_of_length_eq_zero (by simpa using h)
theorem trimN_last (s : ByteArray) (c : Int) : ∀ n m, n ≤ s.size → (hm : Vl.trimN s c n = m + 1) → ∃ h : m < s.size, ¬ (s[m].toNat : Int) = c
  | 0, m, _, hm => by simp [Vl.trimN] at hm
  | n + 1, m, h, hm => by
    by_cases hc : ((s[n]'(by omega)).toNat : Int) = c
    · rw [Vl.trimN_yes s c (n + 1) (by omega) (by omega) (by simpa using hc)] at hm
      exact trimN_last s c n m (by omega) hm
    · rw [Vl.trimN_no s c (n + 1) (by omega) (by omega) (by simpa using hc)] at hm
      obtain rfl : n = m := by omega
      exact ⟨by omega, hc⟩
theorem trim_empty (s : ByteArray) : (Vl.trimL (Vl.trimR s 37) 37).toList = [] ↔ ∀ d ∈ bytesOf s, d = 37 := by
  have hl := bytesOf_size s
  have hz := trimN_zero s 37 s.size (Nat.le_refl _)
  rw [List.take_of_length_le (by omega)] at hz
  rw [size_toList, ← hz]
  constructor
  · intro h
    by_cases h0 : Vl.trimN s 37 s.size = 0
    · exact h0
    · exfalso
      obtain ⟨m, hm⟩ : ∃ m, Vl.trimN s 37 s.size = m + 1 := ⟨Vl.trimN s 37 s.size - 1, by omega⟩
      obtain ⟨g1, g2⟩ := trimN_last s 37 s.size m (Nat.le_refl _) hm
      have hlt : m < (Vl.trimR s 37).size := by
        unfold Vl.trimR
        rw [hm, ByteArray.size_extract]
        omega
      have := trimL_pos (Vl.trimR s 37) 37 m hlt (by
        have e : (Vl.trimR s 37)[m] = s[m] := by
          simp only [Vl.trimR, ByteArray.getElem_extract, Nat.zero_add]
        rw [e]
        exact g2) m rfl
      omega
  · intro h
    have e : (Vl.trimR s 37).size = 0 := by
      unfold Vl.trimR
      rw [h, ByteArray.size_extract]
      omega
    rw [Vl.trimL_none _ _ (by omega), e]
theorem trim_f (P : ByteArray) (k : Nat) (hP : P.size ≤ 1000000) : ∃ t, strings_Trim.f (P.extract k P.size) ⟨#[37]⟩ = some t ∧ ((t.toList == []) = true ↔ ∀ c ∈ (bytesOf P).drop k, c = 37) := by
  refine ⟨_, by unfold strings_Trim.f; rw [if_pos ⟨rfl, by rw [ByteArray.size_extract]; omega⟩], ?_⟩
  rw [beq_iff_eq, trim_empty, bytesOf_ext]
/-- the loop, once a star was met -/
theorem some_star (T P : ByteArray) (hT : T.size ≤ 1000) (hP : P.size ≤ 1000) : ∀ (d i k s f : Nat), ((T.size - f) + (P.size - s)) * (T.size + 1) + (T.size - i) ≤ d → Inv (bytesOf T) (bytesOf P) i k s f →
    ∃ K r, value_Like.l0 K T P (i : Int) (k : Int) (s : Int) (f : Int) = some r ∧ (r = true ↔ Goal (bytesOf T) (bytesOf P) s f) := by
  have lT := bytesOf_size T
  have lP := bytesOf_size P
  intro d
  induction d with
  | zero =>
    intro i k s f hm h
    have := h.sk
    have := h.kP
    have : 1 ≤ (T.size - f) + (P.size - s) := by omega
    have := Nat.mul_le_mul_right (T.size + 1) this
    omega
  | succ d ih =>
    intro i k s f hm h
    have q1 := h.fi
    have q2 := h.iT
    have q3 := h.sk
    have q4 := h.kP
    by_cases hi : i < T.size
    · have fail : (∀ hk : k < (bytesOf P).length, ¬ (bytesOf P)[k] = 37 ∧ ¬ one (bytesOf P)[k] ((bytesOf T)[i]'(by omega))) → ∃ K r, value_Like.j2 K T P (i : Int) (k : Int) (s : Int) (f : Int) false = some r ∧ (r = true ↔ Goal (bytesOf T) (bytesOf P) s f) := by
        intro hn
        have hm1 : ((T.size - (f + 1)) + (P.size - s)) * (T.size + 1) + (T.size - (f + 1)) ≤ d := by
          have e : (T.size - f) + (P.size - s) = ((T.size - (f + 1)) + (P.size - s)) + 1 := by omega
          rw [e, Nat.add_mul] at hm
          omega
        obtain ⟨K, r, h1, h2⟩ := ih (f + 1) (s + 1) s (f + 1) hm1 (Inv.begin (by omega) (by omega))
        refine ⟨K + 1, r, ?_, h2.trans (h.fail (by omega) hn).symm⟩
        unfold value_Like.j2
        rw [if_neg (by simp), if_pos (by omega), w1 f (by omega), w1 s (by omega)]
        exact h1
      have FAIL := Lib.hid fail
      clear fail
      by_cases hk : k < P.size
      · have hbk := bt_nat P k (by omega)
        have hbi := bt_nat T i (by omega)
        by_cases c1 : (bytesOf P)[k]'(by omega) = 37
        · have hm1 : ((T.size - i) + (P.size - k)) * (T.size + 1) + (T.size - i) ≤ d := by
            have e : ((T.size - i) + (P.size - k)) + 1 ≤ (T.size - f) + (P.size - s) := by omega
            have := Nat.mul_le_mul_right (T.size + 1) e
            rw [Nat.add_mul] at this
            omega
          obtain ⟨K, r, h1, h2⟩ := ih i (k + 1) k i hm1 (Inv.begin q2 (by omega))
          refine ⟨K + 2, r, ?_, h2.trans (h.star (by omega) c1).symm⟩
          unfold value_Like.l0
          rw [if_pos (by omega), if_pos (by omega), if_pos (by omega), hbk, c1]
          unfold value_Like.j1
          rw [if_pos (by decide), w1 k (by omega)]
          exact h1
        · have next : one ((bytesOf P)[k]'(by omega)) ((bytesOf T)[i]'(by omega)) → ∃ K r, value_Like.j2 K T P (i : Int) (k : Int) (s : Int) (f : Int) true = some r ∧ (r = true ↔ Goal (bytesOf T) (bytesOf P) s f) := by
            intro ho
            obtain ⟨K, r, h1, h2⟩ := ih (i + 1) (k + 1) s f (by omega) (h.step (by omega) (by omega) c1 ho)
            refine ⟨K + 1, r, ?_, h2⟩
            unfold value_Like.j2
            rw [if_pos rfl, w1 i (by omega), w1 k (by omega)]
            exact h1
          by_cases c2 : (bytesOf P)[k]'(by omega) = 95
          · obtain ⟨K, r, h1, h2⟩ := next (.inl c2)
            refine ⟨K + 2, r, ?_, h2⟩
            unfold value_Like.l0
            rw [if_pos (by omega), if_pos (by omega), if_pos (by omega), hbk, beq_false_of_ne c1]
            unfold value_Like.j1
            rw [if_neg (by simp), if_pos (by omega), if_pos (by omega), if_pos (by rw [hbk]; exact c2)]
            exact h1
          · by_cases c3 : (bytesOf P)[k]'(by omega) = (bytesOf T)[i]'(by omega)
            · obtain ⟨K, r, h1, h2⟩ := next (.inr c3)
              refine ⟨K + 2, r, ?_, h2⟩
              unfold value_Like.l0
              rw [if_pos (by omega), if_pos (by omega), if_pos (by omega), hbk, beq_false_of_ne c1]
              unfold value_Like.j1
              rw [if_neg (by simp), if_pos (by omega), if_pos (by omega), if_neg (by rw [hbk]; exact c2), if_pos (by omega), if_pos (by omega), hbk, hbi, beq_iff_eq.2 c3]
              exact h1
            · obtain ⟨K, r, h1, h2⟩ := FAIL.out (fun _ => ⟨c1, fun ho => ho.elim c2 c3⟩)
              refine ⟨K + 2, r, ?_, h2⟩
              unfold value_Like.l0
              rw [if_pos (by omega), if_pos (by omega), if_pos (by omega), hbk, beq_false_of_ne c1]
              unfold value_Like.j1
              rw [if_neg (by simp), if_pos (by omega), if_pos (by omega), if_neg (by rw [hbk]; exact c2), if_pos (by omega), if_pos (by omega), hbk, hbi, beq_false_of_ne c3]
              exact h1
      · obtain ⟨K, r, h1, h2⟩ := FAIL.out (fun hk' => by omega)
        refine ⟨K + 2, r, ?_, h2⟩
        unfold value_Like.l0
        rw [if_pos (by omega), if_neg (by omega)]
        unfold value_Like.j1
        rw [if_neg (by simp), if_neg (by omega)]
        exact h1
    · obtain ⟨t, h1, h2⟩ := trim_f P k (by omega)
      obtain rfl : i = (bytesOf T).length := by omega
      refine ⟨1, _, ?_, h2.trans h.done.symm⟩
      unfold value_Like.l0
      rw [if_neg (by omega), if_pos (by omega), if_pos (by omega), Int.toNat_natCast, h1]
      rfl
/-- the loop, before a star is met -/
theorem no_star (T P : ByteArray) (hT : T.size ≤ 1000) (hP : P.size ≤ 1000) : ∀ (d i k : Nat), T.size - i = d → i ≤ T.size → k ≤ P.size →
    ∃ K r, value_Like.l0 K T P (i : Int) (k : Int) (-1) 0 = some r ∧ (r = true ↔ mat ((bytesOf P).drop k) ((bytesOf T).drop i)) := by
  have lT := bytesOf_size T
  have lP := bytesOf_size P
  intro d
  induction d with
  | zero =>
    intro i k hd hi hk
    obtain ⟨t, h1, h2⟩ := trim_f P k (by omega)
    have e : (bytesOf T).drop i = [] := List.drop_of_length_le (by omega)
    refine ⟨1, _, ?_, h2.trans (by rw [e]; exact (mat_nil _).symm)⟩
    unfold value_Like.l0
    rw [if_neg (by omega), if_pos (by omega), if_pos (by omega), Int.toNat_natCast, h1]
    rfl
  | succ d ih =>
    intro i k hd hi hk
    have fail : ¬ mat ((bytesOf P).drop k) ((bytesOf T).drop i) → ∃ K r, value_Like.j2 K T P (i : Int) (k : Int) (-1) 0 false = some r ∧ (r = true ↔ mat ((bytesOf P).drop k) ((bytesOf T).drop i)) := by
      intro hn
      refine ⟨1, false, ?_, by simp [hn]⟩
      unfold value_Like.j2
      rw [if_neg (by simp), if_neg (by omega)]
    by_cases hkP : k < P.size
    · have hbk := bt_nat P k (by omega)
      have hbi := bt_nat T i (by omega)
      have hdk : (bytesOf P).drop k = (bytesOf P)[k]'(by omega) :: (bytesOf P).drop (k + 1) := List.drop_eq_getElem_cons (by omega)
      by_cases c1 : (bytesOf P)[k]'(by omega) = 37
      · obtain ⟨K, r, h1, h2⟩ := some_star T P hT hP _ i (k + 1) k i (Nat.le_refl _) (Inv.begin (by omega) (by omega))
        refine ⟨K + 2, r, ?_, h2.trans ?_⟩
        · unfold value_Like.l0
          rw [if_pos (by omega), if_pos (by omega), if_pos (by omega), hbk, c1]
          unfold value_Like.j1
          rw [if_pos (by decide), w1 k (by omega)]
          exact h1
        · rw [hdk, c1, mat_star]
          unfold Goal
          constructor
          · rintro ⟨j, g1, g2, g3⟩
            exact ⟨j - i, by rw [List.length_drop]; omega, by rw [List.drop_drop, show i + (j - i) = j by omega]; exact g3⟩
          · rintro ⟨j, g1, g3⟩
            rw [List.length_drop] at g1
            rw [List.drop_drop] at g3
            exact ⟨i + j, by omega, by omega, g3⟩
      · have next : one ((bytesOf P)[k]'(by omega)) ((bytesOf T)[i]'(by omega)) → ∃ K r, value_Like.j2 K T P (i : Int) (k : Int) (-1) 0 true = some r ∧ (r = true ↔ mat ((bytesOf P).drop k) ((bytesOf T).drop i)) := by
          intro ho
          obtain ⟨K, r, h1, h2⟩ := ih (i + 1) (k + 1) (by omega) (by omega) (by omega)
          refine ⟨K + 1, r, ?_, h2.trans ?_⟩
          · unfold value_Like.j2
            rw [if_pos rfl, w1 i (by omega), w1 k (by omega)]
            exact h1
          · rw [hdk, mat_at c1]
            exact ⟨fun h => ⟨by omega, ho, h⟩, fun ⟨_, _, h⟩ => h⟩
        by_cases c2 : (bytesOf P)[k]'(by omega) = 95
        · obtain ⟨K, r, h1, h2⟩ := next (.inl c2)
          refine ⟨K + 2, r, ?_, h2⟩
          unfold value_Like.l0
          rw [if_pos (by omega), if_pos (by omega), if_pos (by omega), hbk, beq_false_of_ne c1]
          unfold value_Like.j1
          rw [if_neg (by simp), if_pos (by omega), if_pos (by omega), if_pos (by rw [hbk]; exact c2)]
          exact h1
        · by_cases c3 : (bytesOf P)[k]'(by omega) = (bytesOf T)[i]'(by omega)
          · obtain ⟨K, r, h1, h2⟩ := next (.inr c3)
            refine ⟨K + 2, r, ?_, h2⟩
            unfold value_Like.l0
            rw [if_pos (by omega), if_pos (by omega), if_pos (by omega), hbk, beq_false_of_ne c1]
            unfold value_Like.j1
            rw [if_neg (by simp), if_pos (by omega), if_pos (by omega), if_neg (by rw [hbk]; exact c2), if_pos (by omega), if_pos (by omega), hbk, hbi, beq_iff_eq.2 c3]
            exact h1
          · obtain ⟨K, r, h1, h2⟩ := fail (by
              rw [hdk, mat_at c1]
              rintro ⟨_, ho, _⟩
              exact ho.elim c2 c3)
            refine ⟨K + 2, r, ?_, h2⟩
            unfold value_Like.l0
            rw [if_pos (by omega), if_pos (by omega), if_pos (by omega), hbk, beq_false_of_ne c1]
            unfold value_Like.j1
            rw [if_neg (by simp), if_pos (by omega), if_pos (by omega), if_neg (by rw [hbk]; exact c2), if_pos (by omega), if_pos (by omega), hbk, hbi, beq_false_of_ne c3]
            exact h1
    · obtain ⟨K, r, h1, h2⟩ := fail (by
        rw [List.drop_of_length_le (show (bytesOf P).length ≤ k by omega)]
        intro g
        have := congrArg List.length (show (bytesOf T).drop i = [] from g)
        rw [List.length_drop] at this
        simp at this
        omega)
      refine ⟨K + 2, r, ?_, h2⟩
      unfold value_Like.l0
      rw [if_pos (by omega), if_neg (by omega)]
      unfold value_Like.j1
      rw [if_neg (by simp), if_neg (by omega)]
      exact h1
theorem like_f (T P : ByteArray) (hT : T.size ≤ 1000) (hP : P.size ≤ 1000) : ∃ K r, value_Like.f K T P = some r ∧ (r = true ↔ mat (bytesOf P) (bytesOf T)) := by
  obtain ⟨K, r, h1, h2⟩ := no_star T P hT hP _ 0 0 rfl (by omega) (by omega)
  exact ⟨K, r, h1, h2⟩
end Lk
end Go.Proofs.YtlmkhpgnkpgbdaaDoor

namespace Go.Proofs.YtlmkhpgnkpgbdaaDoor
open Go.RowKit Go.Proofs.YtlmkhpgnkpgbdaaDoor.PVLP Go.Proofs.YtlmkhpgnkpgbdaaDoorW.PrintWords Go.Proofs.YtlmkhpgnkpgbdaaDoorW.PrintLast
set_option linter.unusedVariables false
set_option linter.unusedSimpArgs false
namespace Lk
/-- a row of the table is right -/
def Part (T P : List Int) (nx : List Bool) (q j : Nat) : Prop := nx.length = T.length + 1 ∧ ∀ i, j ≤ i → i ≤ T.length → (rdOf false nx (i : Int) = true ↔ mat (P.drop q) (T.drop i))
theorem Part.set {T P : List Int} {nx : List Bool} {q j : Nat} {v : Bool} (h : Part T P nx q (j + 1)) (hj : j ≤ T.length) (hv : v = true ↔ mat (P.drop q) (T.drop j)) : Part T P (nx.set j v) q j := by
  refine ⟨by rw [List.length_set]; exact h.1, fun i h1 h2 => ?_⟩
  have hl := h.1
  by_cases e : i = j
  · subst e
    have : rdOf false (nx.set i v) (i : Int) = v := by simp [rdOf, List.getD_eq_getElem?_getD, show i < nx.length by omega]
    rw [this]
    exact hv
  · have : rdOf false (nx.set j v) (i : Int) = rdOf false nx (i : Int) := by simp [rdOf, List.getD_eq_getElem?_getD, List.getElem?_set_ne (Ne.symm e)]
    rw [this]
    exact h.2 i (by omega) h2
theorem wj (j : Nat) (h : j < 1000000) : wrap64 (((j + 1 : Nat) : Int) - 1 - 1) = (j : Int) - 1 := by rw [w64 _ (by omega) (by omega)]; omega
theorem inner (T P : ByteArray) (hT : T.size ≤ 1000) (hP : P.size ≤ 1000) (q : Nat) (hq : q < P.size) (ok : List Bool) (hok : Part (bytesOf T) (bytesOf P) ok (q + 1) 0) (R : Bool → Prop)
    (hc : ∀ nx, Part (bytesOf T) (bytesOf P) nx q 0 → ∃ K r, stileref01_Like.l0 K T P (T.size : Int) nx (wrap64 ((q : Int) - 1)) = some r ∧ R r) :
    ∀ (j : Nat) (nx : List Bool), j ≤ T.size + 1 → Part (bytesOf T) (bytesOf P) nx q j → ∃ K r, stileref01_Like.l1 K T P (T.size : Int) ok (q : Int) nx ((j : Int) - 1) = some r ∧ R r := by
  have lT := bytesOf_size T
  have lP := bytesOf_size P
  have lok := hok.1
  intro j
  induction j with
  | zero =>
    intro nx hj hn
    obtain ⟨K, r, h1, h2⟩ := hc nx hn
    refine ⟨K + 1, r, ?_, h2⟩
    unfold stileref01_Like.l1
    rw [if_neg (by omega)]
    exact h1
  | succ j ih =>
    intro nx hj hn
    have lnx := hn.1
    have hx : (((j + 1 : Nat) : Int) - 1) = (j : Int) := by omega
    have hdq : (bytesOf P).drop q = (bytesOf P)[q]'(by omega) :: (bytesOf P).drop (q + 1) := List.drop_eq_getElem_cons (by omega)
    have hbq := bt_nat P q (by omega)
    have next : ∀ v : Bool, (v = true ↔ mat ((bytesOf P).drop q) ((bytesOf T).drop j)) → ∃ K r, stileref01_Like.l1 K T P (T.size : Int) ok (q : Int) (nx.set j v) (wrap64 ((j : Int) - 1)) = some r ∧ R r := by
      intro v hv
      rw [w64 _ (by omega) (by omega)]
      exact ih (nx.set j v) (by omega) (hn.set (by omega) hv)
    have hok1 : j < T.size → (rdOf false ok (wrap64 ((j : Int) + 1)) = true ↔ mat ((bytesOf P).drop (q + 1)) ((bytesOf T).drop (j + 1))) := fun h => by
      rw [w1 j (by omega)]
      exact hok.2 (j + 1) (by omega) (by omega)
    have hnx1 : j < T.size → (rdOf false nx (wrap64 ((j : Int) + 1)) = true ↔ mat ((bytesOf P).drop q) ((bytesOf T).drop (j + 1))) := fun h => by
      rw [w1 j (by omega)]
      exact hn.2 (j + 1) (by omega) (by omega)
    have hokj := hok.2 j (by omega) (by omega)
    have HN := Lib.hid next
    have H1 := Lib.hid hok1
    have H2 := Lib.hid hnx1
    have HJ := Lib.hid hokj
    clear next hok1 hnx1 hokj
    rw [hx]
    by_cases c1 : (bytesOf P)[q]'(by omega) = 37
    · have hm := mat_star' ((bytesOf P).drop (q + 1)) (bytesOf T) j
      rw [c1] at hdq
      by_cases g1 : rdOf false ok (j : Int) = true
      · obtain ⟨K, r, h1, h2⟩ := HN.out true (by rw [hdq, hm]; exact ⟨fun _ => .inl (HJ.out.1 g1), fun _ => rfl⟩)
        refine ⟨K + 1, r, ?_, h2⟩
        unfold stileref01_Like.l1
        rw [if_pos (by omega), if_pos (by omega), if_pos (by omega), if_pos (by rw [hbq]; exact c1), if_pos (by omega), if_pos (by omega), if_pos g1, if_pos (by omega), Int.toNat_natCast]
        exact h1
      · by_cases g2 : j < T.size
        · obtain ⟨K, r, h1, h2⟩ := HN.out (rdOf false nx (wrap64 ((j : Int) + 1))) (by
            rw [H2.out g2, hdq, hm]
            exact ⟨fun h => .inr ⟨by omega, h⟩, fun h => h.elim (fun h => absurd (HJ.out.2 h) g1) (fun h => h.2)⟩)
          refine ⟨K + 1, r, ?_, h2⟩
          have E1 := Lib.hid (w1 j (by omega))
          unfold stileref01_Like.l1
          rw [if_pos (by omega), if_pos (by omega), if_pos (by omega), if_pos (by rw [hbq]; exact c1), if_pos (by omega), if_pos (by omega), if_neg g1, if_pos (by omega), if_pos (by rw [E1.out]; omega), if_pos (by rw [E1.out]; omega), if_pos (by omega), Int.toNat_natCast]
          exact h1
        · obtain ⟨K, r, h1, h2⟩ := HN.out false (by
            rw [hdq, hm]
            exact ⟨fun h => (by cases h), fun h => h.elim (fun h => absurd (HJ.out.2 h) g1) (fun h => by omega)⟩)
          refine ⟨K + 1, r, ?_, h2⟩
          unfold stileref01_Like.l1
          rw [if_pos (by omega), if_pos (by omega), if_pos (by omega), if_pos (by rw [hbq]; exact c1), if_pos (by omega), if_pos (by omega), if_neg g1, if_neg (by omega), if_pos (by omega), Int.toNat_natCast]
          exact h1
    · have hm := mat_at c1 ((bytesOf P).drop (q + 1)) (bytesOf T) j
      by_cases c2 : (bytesOf P)[q]'(by omega) = 95
      · by_cases g2 : j < T.size
        · obtain ⟨K, r, h1, h2⟩ := HN.out (rdOf false ok (wrap64 ((j : Int) + 1))) (by
            rw [H1.out g2, hdq, hm]
            exact ⟨fun h => ⟨by omega, .inl c2, h⟩, fun ⟨_, _, h⟩ => h⟩)
          refine ⟨K + 1, r, ?_, h2⟩
          have E1 := Lib.hid (w1 j (by omega))
          unfold stileref01_Like.l1
          rw [if_pos (by omega), if_pos (by omega), if_pos (by omega), if_neg (by rw [hbq]; exact c1), if_pos (by rw [hbq]; exact c2), if_pos (by omega), if_pos (by rw [E1.out]; omega), if_pos (by rw [E1.out]; omega), if_pos (by omega), if_pos (by omega), Int.toNat_natCast]
          exact h1
        · obtain ⟨K, r, h1, h2⟩ := HN.out false (by
            rw [hdq, hm]
            exact ⟨fun h => (by cases h), fun ⟨h, _⟩ => by omega⟩)
          refine ⟨K + 1, r, ?_, h2⟩
          unfold stileref01_Like.l1
          rw [if_pos (by omega), if_pos (by omega), if_pos (by omega), if_neg (by rw [hbq]; exact c1), if_pos (by rw [hbq]; exact c2), if_neg (by omega), if_pos (by omega), if_pos (by omega), Int.toNat_natCast]
          exact h1
      · by_cases g2 : j < T.size
        · have hbj := bt_nat T j (by omega)
          by_cases g3 : (bytesOf T)[j]'(by omega) = (bytesOf P)[q]'(by omega)
          · obtain ⟨K, r, h1, h2⟩ := HN.out (rdOf false ok (wrap64 ((j : Int) + 1))) (by
              rw [H1.out g2, hdq, hm]
              exact ⟨fun h => ⟨by omega, .inr g3.symm, h⟩, fun ⟨_, _, h⟩ => h⟩)
            refine ⟨K + 1, r, ?_, h2⟩
            have E1 := Lib.hid (w1 j (by omega))
            unfold stileref01_Like.l1
            rw [if_pos (by omega), if_pos (by omega), if_pos (by omega), if_neg (by rw [hbq]; exact c1), if_neg (by rw [hbq]; exact c2), if_pos (by omega), if_pos (by omega), if_pos (by omega), if_pos (by rw [hbq, hbj]; exact g3), if_pos (by rw [E1.out]; omega), if_pos (by rw [E1.out]; omega), if_pos (by omega), Int.toNat_natCast]
            exact h1
          · obtain ⟨K, r, h1, h2⟩ := HN.out false (by
              rw [hdq, hm]
              exact ⟨fun h => (by cases h), fun ⟨_, h, _⟩ => h.elim (fun h => absurd h c2) (fun h => absurd h.symm g3)⟩)
            refine ⟨K + 1, r, ?_, h2⟩
            unfold stileref01_Like.l1
            rw [if_pos (by omega), if_pos (by omega), if_pos (by omega), if_neg (by rw [hbq]; exact c1), if_neg (by rw [hbq]; exact c2), if_pos (by omega), if_pos (by omega), if_pos (by omega), if_neg (by rw [hbq, hbj]; exact g3), if_pos (by omega), Int.toNat_natCast]
            exact h1
        · obtain ⟨K, r, h1, h2⟩ := HN.out false (by
            rw [hdq, hm]
            exact ⟨fun h => (by cases h), fun ⟨h, _⟩ => by omega⟩)
          refine ⟨K + 1, r, ?_, h2⟩
          unfold stileref01_Like.l1
          rw [if_pos (by omega), if_pos (by omega), if_pos (by omega), if_neg (by rw [hbq]; exact c1), if_neg (by rw [hbq]; exact c2), if_neg (by omega), if_pos (by omega), if_pos (by omega), Int.toNat_natCast]
          exact h1
theorem outer (T P : ByteArray) (hT : T.size ≤ 1000) (hP : P.size ≤ 1000) : ∀ (q : Nat) (ok : List Bool), q ≤ P.size → Part (bytesOf T) (bytesOf P) ok q 0 → ∃ K r, stileref01_Like.l0 K T P (T.size : Int) ok ((q : Int) - 1) = some r ∧ (r = true ↔ mat (bytesOf P) (bytesOf T)) := by
  have lT := bytesOf_size T
  have lP := bytesOf_size P
  intro q
  induction q with
  | zero =>
    intro ok _ h
    have := h.1
    refine ⟨1, rdOf false ok 0, ?_, h.2 0 (Nat.le_refl _) (Nat.zero_le _)⟩
    unfold stileref01_Like.l0
    rw [if_neg (by omega), if_pos (by omega)]
  | succ q ih =>
    intro ok hq h
    have hx : (((q + 1 : Nat) : Int) - 1) = (q : Int) := by omega
    have hrep : Part (bytesOf T) (bytesOf P) (List.replicate (T.size + 1) false) q (T.size + 1) := ⟨by rw [List.length_replicate]; omega, fun i h1 h2 => by omega⟩
    obtain ⟨K, r, h1, h2⟩ := inner T P hT hP q (by omega) ok h (fun r => r = true ↔ mat (bytesOf P) (bytesOf T)) (fun nx hn => by rw [w64 _ (by omega) (by omega)]; exact ih nx (by omega) hn) (T.size + 1) _ (Nat.le_refl _) hrep
    refine ⟨K + 1, r, ?_, h2⟩
    have E1 := Lib.hid (w1 T.size (by omega))
    have E2 := Lib.hid (show (wrap64 ((T.size : Int) + 1)).toNat = T.size + 1 by rw [E1.out, Int.toNat_natCast])
    unfold stileref01_Like.l0
    rw [hx, if_pos (by omega), if_pos (by rw [E1.out]; omega), if_pos (by rw [E2.out]; omega), E2.out]
    rw [show (((T.size + 1 : Nat) : Int) - 1) = (T.size : Int) by omega] at h1
    exact h1
theorem ref_f (T P : ByteArray) (hT : T.size ≤ 1000) (hP : P.size ≤ 1000) : ∃ K r, stileref01_Like.f K T P = some r ∧ (r = true ↔ mat (bytesOf P) (bytesOf T)) := by
  have lT := bytesOf_size T
  have lP := bytesOf_size P
  have hp : Part (bytesOf T) (bytesOf P) ((List.replicate (T.size + 1) false).set T.size true) P.size 0 := by
    refine ⟨by rw [List.length_set, List.length_replicate]; omega, fun i h1 h2 => ?_⟩
    rw [List.drop_of_length_le (show (bytesOf P).length ≤ P.size by omega)]
    show _ ↔ (bytesOf T).drop i = []
    by_cases e : i = T.size
    · subst e
      have : rdOf false ((List.replicate (T.size + 1) false).set T.size true) (T.size : Int) = true := by simp [rdOf, List.getD_eq_getElem?_getD]
      rw [this, List.drop_of_length_le (by omega)]
      simp
    · have : rdOf false ((List.replicate (T.size + 1) false).set T.size true) (i : Int) = false := by
        simp only [rdOf, Int.toNat_natCast, List.getD_eq_getElem?_getD, List.getElem?_set_ne (Ne.symm e), List.getElem?_replicate]
        split <;> rfl
      rw [this]
      refine ⟨fun h => (by cases h), fun h => ?_⟩
      have := congrArg List.length h
      rw [List.length_drop] at this
      simp at this
      omega
  obtain ⟨K, r, h1, h2⟩ := outer T P hT hP P.size _ (Nat.le_refl _) hp
  refine ⟨K, r, ?_, h2⟩
  have E1 := Lib.hid (w1 T.size (by omega))
  have E2 := Lib.hid (show (wrap64 ((T.size : Int) + 1)).toNat = T.size + 1 by rw [E1.out, Int.toNat_natCast])
  unfold stileref01_Like.f
  rw [if_pos (by rw [E1.out]; omega), if_pos (by rw [E2.out]; omega), Option.bind_some, E2.out, if_pos (by omega), if_pos (by rw [List.length_replicate]; omega), Int.toNat_natCast, w64 ((P.size : Int) - 1) (by omega) (by omega)]
  exact h1
end Lk
end Go.Proofs.YtlmkhpgnkpgbdaaDoor

namespace Go.Proofs.YtlmkhpgnkpgbdaaDoor.PVLP
open Go.RowKit Go.Proofs.YtlmkhpgnkpgbdaaDoorW.PrintWords Go.Proofs.YtlmkhpgnkpgbdaaDoorW.PrintLast Go.Proofs.YtlmkhpgnkpgbdaaDoorW.PrintMore
attribute [local go_sem] max2_int min2_int max_two min_two max_three min_three max_four min_four   -- for this text's walks alone
set_option linter.unusedVariables false
set_option linter.unusedSimpArgs false

/-! ### value_Concat: function 21, by hand -/
def value_Concat.f (a0_0 : Int) (a0_1 : Int) (a0_2 : ByteArray) (a0_3 : Bool) (a1_0 : Int) (a1_1 : Int) (a1_2 : ByteArray) (a1_3 : Bool) : Option (Int × Int × ByteArray × Bool × ByteArray) := if a0_2.size ≤ 140737488351232 ∧ a1_2.size ≤ 140737488351232 then some (Go.Proofs.YtlmkhpgnkpgbdaaDoor.Vl.liftF 2 a0_0 a1_0 (Go.Proofs.YtlmkhpgnkpgbdaaDoor.Vl.conF a0_2 a1_2)) else none
theorem value_Concat.calls (a0_0 : Int) (a0_1 : Int) (a0_2 : ByteArray) (a0_3 : Bool) (a1_0 : Int) (a1_1 : Int) (a1_2 : ByteArray) (a1_3 : Bool) (r1 : Int) (r2 : Int) (r3 : ByteArray) (r4 : Bool) (r5 : ByteArray) (w : World) (h : value_Concat.f a0_0 a0_1 a0_2 a0_3 a1_0 a1_1 a1_2 a1_3 = some (r1, r2, r3, r4, r5)) :
    Calls Tryd.prog 21 #[.agg #[.int .i64 a0_0, .int .i64 a0_1, .string a0_2, .bool a0_3], .agg #[.int .i64 a1_0, .int .i64 a1_1, .string a1_2, .bool a1_3]] w fun e w' => e = .returned (.tuple #[.agg #[.int .i64 r1, .int .i64 r2, .string r3, .bool r4], .string r5]) ∧ Below w.heap.size w w' := by
  unfold value_Concat.f at h
  split at h
  · rename_i hc
    exact Go.Proofs.YtlmkhpgnkpgbdaaDoor.Vl.con_raw _ _ _ _ _ _ _ _ r1 r2 r3 r4 r5 w hc.1 hc.2 (Option.some.inj h)
  · cases h

end Go.Proofs.YtlmkhpgnkpgbdaaDoor.PVLP
