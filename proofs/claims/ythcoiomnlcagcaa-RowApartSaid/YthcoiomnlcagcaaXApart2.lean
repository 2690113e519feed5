/- Unlike rows have unlike bytes; it is proved for every input. -/
import Derived.Test.YthcoiomnlcagcaaXApart1
import Derived.Deep.Slices
import Derived.Deep.Fields
import Derived.ChangeSame
import Derived.SizedLaws
import Derived.WideShapes
import Derived.OpenShut
import Derived.Test.YthcoiomnlcagcaaRows
import Derived.WalkKit
import Derived.ProofKit
import Derived.ShutString
import Derived.ChangeOld
import Derived.Below
namespace Go.Proofs.Ythcoiomnlcagcaa.PRZ
open Go.RowKit Go.Proofs.YthcoiomnlcagcaaW.PrintWords Go.Proofs.YthcoiomnlcagcaaW.PrintLast Go.Proofs.YthcoiomnlcagcaaW.PrintMore
attribute [local go_sem] max2_int min2_int max_two min_two max_three min_three max_four min_four   -- for this text's walks alone
set_option linter.unusedVariables false
set_option linter.unusedSimpArgs false

-- NOT PRINTED: function 22 (rowcode_reader_value)

/-! ### rowcode_Decode: function 11, by hand -/
def rowcode_Decode.toS (x : Go.Proofs.Ythcoiomnlcagcaa.Rw.V4) : S40 := ⟨x.1, x.2.1, x.2.2.1, x.2.2.2⟩
theorem rowcode_Decode.reps (w : World) (base : Nat) (ok : Nat → Prop) : ∀ xs : List Go.Proofs.Ythcoiomnlcagcaa.Rw.V4, Reps (k40.M w base ok) k40.sz (xs.map rowcode_Decode.toS) (Go.Proofs.Ythcoiomnlcagcaa.Rw.rowC xs)
  | [] => Reps.none _ _
  | x :: xs => by
    have h := Kd.reps_append (Reps.snoc (Reps.none (k40.M w base ok) k40.sz) (k40_mkM w base ok (rowcode_Decode.toS x)) rfl) (rowcode_Decode.reps w base ok xs)
    simpa [Go.Proofs.Ythcoiomnlcagcaa.Rw.rowC, Go.Proofs.Ythcoiomnlcagcaa.Rw.cells4, rowcode_Decode.toS] using h
theorem rowcode_Decode.post {w w' : World} {xs : List Go.Proofs.Ythcoiomnlcagcaa.Rw.V4} {m : Int} {e : Ending} (h : Go.Proofs.Ythcoiomnlcagcaa.Rw.DecPost w xs m e w') : ∃ v0_ : Value, e = .returned (.tuple #[v0_, .int .i64 m]) ∧ Kd.R k40 40 w' w.heap.size (fun _ => True) v0_ (xs.map rowcode_Decode.toS) ∧ Below w.heap.size w w' := by
  obtain ⟨u, rfl, h2, h3⟩ := h
  exact ⟨u, rfl, ⟨fun _ _ => trivial, Go.Proofs.Ythcoiomnlcagcaa.Rw.rowC xs, by rw [List.length_map]; exact h2, rowcode_Decode.reps _ _ _ xs⟩, h3⟩
def rowcode_Decode.f (l0 : List Int) : Option (List (S40) × Int) := match l0 with
  | [] => some ([], 41)
  | c :: r => if c < 0 then none else if 140737488351232 < r.length + 1 then none else if 12 < c then (if c ≤ 255 then some ([], 41) else none) else if 0 < c then (match Go.Proofs.Ythcoiomnlcagcaa.Rw.valD r with | some .bad => some ([], 41) | _ => none) else none
theorem rowcode_Decode.calls (A0 : Option Addr) (c0 : Nat) (l0 : List Int) (r1 : List (S40)) (r2 : Int) (w : World) (hr0 : Kd.C (Kd.int .u8) w A0 l0.length l0) (hc0 : l0.length ≤ c0) (h : rowcode_Decode.f l0 = some (r1, r2)) :
    Calls Try.prog 11 #[.slice A0 l0.length c0] w fun e w' => ∃ v0_ : Value, e = .returned (.tuple #[v0_, .int .i64 r2]) ∧ Kd.R k40 40 w' w.heap.size (fun _ => True) v0_ r1 ∧ Below w.heap.size w w' := by
  have key : Calls Try.prog 11 #[.slice A0 l0.length c0] w (Go.Proofs.Ythcoiomnlcagcaa.Rw.DecPost w [] 41) ∧ r1 = [] ∧ r2 = 41 := by
    cases l0 with
    | nil =>
      simp [rowcode_Decode.f] at h
      exact ⟨Go.Proofs.Ythcoiomnlcagcaa.Rw.dec_nil A0 c0 w hr0, by simp [← h.1], by simp [← h.2]⟩
    | cons c r =>
      unfold rowcode_Decode.f at h
      dsimp only at h
      split at h
      · cases h
      rename_i hn
      split at h
      · cases h
      rename_i hl
      split at h
      · rename_i h12
        split at h
        · rename_i h255
          simp at h
          exact ⟨Go.Proofs.Ythcoiomnlcagcaa.Rw.dec_cons A0 c0 c r w hr0 hc0 (by omega) (by omega) h255 h12, by simp [← h.1], by simp [← h.2]⟩
        · cases h
      · rename_i h12
        split at h
        · rename_i hp
          split at h
          · rename_i hv
            simp at h
            obtain ⟨m, rfl⟩ : ∃ m : Nat, c = m := ⟨c.toNat, by omega⟩
            exact ⟨Go.Proofs.Ythcoiomnlcagcaa.Rw.dec_bad A0 c0 m r w hr0 hc0 (by omega) (by omega) (by omega) hv, by simp [← h.1], by simp [← h.2]⟩
          · cases h
        · cases h
  obtain ⟨hk, rfl, rfl⟩ := key
  exact hk.mono fun e w' hp => rowcode_Decode.post hp

end Go.Proofs.Ythcoiomnlcagcaa.PRZ

namespace Go.Proofs.Ythcoiomnlcagcaa.PRZ
open Go.RowKit Go.Proofs.YthcoiomnlcagcaaW.PrintWords Go.Proofs.YthcoiomnlcagcaaW.PrintLast Go.Proofs.YthcoiomnlcagcaaW.PrintMore
attribute [local go_sem] max2_int min2_int max_two min_two max_three min_three max_four min_four   -- for this text's walks alone
set_option linter.unusedVariables false
set_option linter.unusedSimpArgs false

/-! ### stilelaw04_alive: function 15 -/
def stilelaw04_alive.f (k : Nat)  : Option (Bool) := (stileref01_Num.f 1).bind fun bt156 => ((rowcode_Encode.f k (([(⟨bt156.1, bt156.2.1, bt156.2.2.1, bt156.2.2.2⟩ : S40), (⟨0, 0, (⟨#[]⟩ : ByteArray), false⟩ : S40)] : List (S40)))).bind fun bt163 => ((rowcode_Decode.f (([1, 5] : List Int))).bind fun bt170 => (if bt163.2 = 0 then (if (bt163.1.length : Int) = 11 then (if 0 < (bt163.1.length : Int) then (if (rd bt163.1 0) = 2 then (if 2 < (bt163.1.length : Int) then (if (rd bt163.1 2) = 1 then (some (bt170.2 == 41)) else (some false)) else (none)) else (some false)) else (none)) else (some false)) else (some false))))
theorem stilelaw04_alive.mono : ∀ k, LeO (stilelaw04_alive.f k ) (stilelaw04_alive.f (k + 1) ) := by
  intro  k
  unfold stilelaw04_alive.f
  repeat' first
      | (with_reducible exact rowcode_Encode.mono _ _)
      | (with_reducible exact LeO.refl _)
      | (with_reducible exact LeO.none _)
      | (with_reducible refine LeO.ite ?_ ?_)
      | (with_reducible refine LeO.bind ?_ (fun _ => ?_))
      | exact rowcode_Encode.mono _ _
      | exact LeO.none _
      | refine LeO.ite ?_ ?_
      | refine LeO.bind ?_ (fun _ => ?_)
set_option maxHeartbeats 8000000 in
set_option maxRecDepth 100000 in
theorem stilelaw04_alive.calls (k : Nat)  (r : Bool) (w : World) (h : stilelaw04_alive.f k  = some r) :
    Calls Try.prog 15 #[] w fun e w' => e = .returned (.bool r) ∧ Below w.heap.size w w' := by
  have hu40 := Try.underlying40
  have HB := Aside0.mk (Below.refl w.heap.size w)
  have H : ((stileref01_Num.f 1).bind fun bt156 => ((rowcode_Encode.f k (([(⟨bt156.1, bt156.2.1, bt156.2.2.1, bt156.2.2.2⟩ : S40), (⟨0, 0, (⟨#[]⟩ : ByteArray), false⟩ : S40)] : List (S40)))).bind fun bt163 => ((rowcode_Decode.f (([1, 5] : List Int))).bind fun bt170 => (if bt163.2 = 0 then (if (bt163.1.length : Int) = 11 then (if 0 < (bt163.1.length : Int) then (if (rd bt163.1 0) = 2 then (if 2 < (bt163.1.length : Int) then (if (rd bt163.1 2) = 1 then (some (bt170.2 == 41)) else (some false)) else (none)) else (some false)) else (none)) else (some false)) else (some false))))) = some r := h
  clear h
  replace H := Option.bind_eq_some_iff.mp H
  obtain ⟨⟨t156, t157, t158, t159⟩, A10, H⟩ := H
  replace H : ((rowcode_Encode.f k (([(⟨t156, t157, t158, t159⟩ : S40), (⟨0, 0, (⟨#[]⟩ : ByteArray), false⟩ : S40)] : List (S40)))).bind fun bt163 => ((rowcode_Decode.f (([1, 5] : List Int))).bind fun bt170 => (if bt163.2 = 0 then (if (bt163.1.length : Int) = 11 then (if 0 < (bt163.1.length : Int) then (if (rd bt163.1 0) = 2 then (if 2 < (bt163.1.length : Int) then (if (rd bt163.1 2) = 1 then (some (bt170.2 == 41)) else (some false)) else (none)) else (some false)) else (none)) else (some false)) else (some false)))) = some r := H
  have A1 := Aside0.mk A10
  clear A10
  obtain ⟨y160, hy160⟩ : ∃ y_ : List (S40), y_ = (([(⟨t156, t157, t158, t159⟩ : S40), (⟨0, 0, (⟨#[]⟩ : ByteArray), false⟩ : S40)] : List (S40))) := ⟨_, rfl⟩
  replace H : ((rowcode_Encode.f k y160).bind fun bt163 => ((rowcode_Decode.f (([1, 5] : List Int))).bind fun bt170 => (if bt163.2 = 0 then (if (bt163.1.length : Int) = 11 then (if 0 < (bt163.1.length : Int) then (if (rd bt163.1 0) = 2 then (if 2 < (bt163.1.length : Int) then (if (rd bt163.1 2) = 1 then (some (bt170.2 == 41)) else (some false)) else (none)) else (some false)) else (none)) else (some false)) else (some false)))) = some r := by first | (rw [hy160]; with_reducible exact H) | (have H2_ := (Option.bind_some _ _).symm.trans H; rw [hy160]; with_reducible exact H2_) | (have H2_ := (Option.bind_some _ _).symm.trans H; with_reducible exact H2_) | with_reducible exact H | (rw [hy160]; exact H) | exact H
  have Ny160 := Aside0.mk hy160
  clear hy160
  replace H := Option.bind_eq_some_iff.mp H
  obtain ⟨⟨t163, t164⟩, A20, H⟩ := H
  replace H : ((rowcode_Decode.f (([1, 5] : List Int))).bind fun bt170 => (if t164 = 0 then (if (t163.length : Int) = 11 then (if 0 < (t163.length : Int) then (if (rd t163 0) = 2 then (if 2 < (t163.length : Int) then (if (rd t163 2) = 1 then (some (bt170.2 == 41)) else (some false)) else (none)) else (some false)) else (none)) else (some false)) else (some false))) = some r := H
  have A2 := Aside0.mk A20
  clear A20
  obtain ⟨y167, hy167⟩ : ∃ y_ : List Int, y_ = (([1, 5] : List Int)) := ⟨_, rfl⟩
  replace H : ((rowcode_Decode.f y167).bind fun bt170 => (if t164 = 0 then (if (t163.length : Int) = 11 then (if 0 < (t163.length : Int) then (if (rd t163 0) = 2 then (if 2 < (t163.length : Int) then (if (rd t163 2) = 1 then (some (bt170.2 == 41)) else (some false)) else (none)) else (some false)) else (none)) else (some false)) else (some false))) = some r := by first | (rw [hy167]; with_reducible exact H) | (have H2_ := (Option.bind_some _ _).symm.trans H; rw [hy167]; with_reducible exact H2_) | (have H2_ := (Option.bind_some _ _).symm.trans H; with_reducible exact H2_) | with_reducible exact H | (rw [hy167]; exact H) | exact H
  have Ny167 := Aside0.mk hy167
  clear hy167
  replace H := Option.bind_eq_some_iff.mp H
  obtain ⟨⟨t170, t171⟩, A30, H⟩ := H
  replace H : (if t164 = 0 then (if (t163.length : Int) = 11 then (if 0 < (t163.length : Int) then (if (rd t163 0) = 2 then (if 2 < (t163.length : Int) then (if (rd t163 2) = 1 then (some (t171 == 41)) else (some false)) else (none)) else (some false)) else (none)) else (some false)) else (some false)) = some r := H
  have A3 := Aside0.mk A30
  clear A30
  by_cases c4 : t164 = 0
  · rw [if_pos c4] at H
    have c4b0 : (t164 == 0) = true := beq_iff_eq.mpr c4
    have c4b1 : (t164 != 0) = false := bne_eq_false_iff_eq.mpr c4
    clear c4
    by_cases c5 : (t163.length : Int) = 11
    · rw [if_pos c5] at H
      have c5b0 : ((t163.length : Int) == 11) = true := beq_iff_eq.mpr c5
      have c5b1 : ((t163.length : Int) != 11) = false := bne_eq_false_iff_eq.mpr c5
      clear c5
      by_cases c6 : 0 < (t163.length : Int)
      · rw [if_pos c6] at H
        have c6b0 : decide (0 < (t163.length : Int)) = true := decide_eq_true c6
        have c6b1 : decide (0 < t163.length) = true := decide_eq_true (by omega)
        clear c6
        by_cases c7 : (rd t163 0) = 2
        · rw [if_pos c7] at H
          have c7b0 : ((rd t163 0) == 2) = true := beq_iff_eq.mpr c7
          have c7b1 : ((rd t163 0) != 2) = false := bne_eq_false_iff_eq.mpr c7
          clear c7
          by_cases c8 : 2 < (t163.length : Int)
          · rw [if_pos c8] at H
            have c8b0 : decide (2 < (t163.length : Int)) = true := decide_eq_true c8
            have c8b1 : decide (2 < t163.length) = true := decide_eq_true (by omega)
            clear c8
            by_cases c9 : (rd t163 2) = 1
            · rw [if_pos c9] at H
              have c9b0 : ((rd t163 2) == 1) = true := beq_iff_eq.mpr c9
              have c9b1 : ((rd t163 2) != 1) = false := bne_eq_false_iff_eq.mpr c9
              clear c9
              obtain rfl := Option.some.inj H
              go_enter Try.func15, Try.ntmps15
              go_wp2_with (first | ((with_reducible refine gate_callee (f := 23) rfl ?_); refine goesL_ (some 6) rfl rfl Try.func23 (by kernel_rfl) rfl #[.int .i64 1] rfl (by (try simp only [List.map_toArray, List.map_cons, List.map_nil]); first | done | rfl | (simp only [List.length_drop, List.length_take]; rfl)) ?_; (with_reducible refine (stileref01_Num.calls 1 t156 t157 t158 t159 _ A1.out).mono ?_); rintro e w10 ⟨rfl, hb⟩; refine ⟨_, rfl, ?_⟩; have n0_ := Aside0.mk (below_step (by repeat (first | (with_reducible first | exact HB.out | apply below_alloc | apply pw_below_drewN | apply below_drew1) | exact HB.out)) hb); clear HB; have HB := n0_; clear n0_; (try clear hb); (try clear hb2); (try clear hk); (try clear hi)) | ((with_reducible refine gate_dst (N := 8) rfl ?_); (try (refine gate_guard (by rfl) ?_; dsimp only)); refine Kd.R_lit k40 _ 40 ?hg (N := 8) ?hd (xs := ([(⟨t156, t157, t158, t159⟩ : S40), (⟨0, 0, (⟨#[]⟩ : ByteArray), false⟩ : S40)] : List (S40))) (inner := [.int .i64 t156, .int .i64 t157, .string t158, .bool t159, .int .i64 0, .int .i64 0, .string (⟨#[]⟩ : ByteArray), .bool false]) (ok := fun _ => True) (okp := fun _ => True) ?hr ?hp (fun _ hk => hk) trivial (Below.refl _ _) (Nat.le_refl _) (by simp) ?_; (case hd => rfl); (case hg => rfl); (case hr => first | (go_simp; done) | (go_simp; rfl)); (case hp => exact (Reps.c4 (show Kd.M k40 _ _ _ (⟨t156, t157, t158, t159⟩ : S40) [.int .i64 t156, .int .i64 t157, .string t158, .bool t159] from (k40_mkM _ _ _ (⟨t156, t157, t158, t159⟩ : S40) )) (Reps.c4 (show Kd.M k40 _ _ _ (⟨0, 0, (⟨#[]⟩ : ByteArray), false⟩ : S40) [.int .i64 0, .int .i64 0, .string (⟨#[]⟩ : ByteArray), .bool false] from (k40_mkM _ _ _ (⟨0, 0, (⟨#[]⟩ : ByteArray), false⟩ : S40) )) (Reps.none _ _)))); intro v161 w11 ho12 hb hg_ hnew_; clear hg_ hnew_; (first | rw [← Ny160.out] at ho12 | (simp only [Int.reduceToNat] at ho12; rw [← Ny160.out] at ho12)); have n0_ := Aside0.mk (Kd.R_lower ho12 (below_size (by repeat (first | (with_reducible first | exact HB.out | apply below_alloc | apply pw_below_drewN | apply below_drew1) | exact HB.out)))); have n1_ := Aside0.mk (below_step (by repeat (first | (with_reducible first | exact HB.out | apply below_alloc | apply pw_below_drewN | apply below_drew1) | exact HB.out)) hb); clear HB; have HO162 := n0_; have HB := n1_; clear n0_ n1_; clear hb ho12; obtain ⟨Ao13, co13, eo13⟩ := Kd.R_slice HO162.out; subst eo13) | ((with_reducible refine gate_callee (f := 9) rfl ?_); refine goesL_ (some 9) rfl rfl Try.func9 (by kernel_rfl) rfl #[.slice Ao13 y160.length co13] rfl (by (try simp only [List.map_toArray, List.map_cons, List.map_nil]); first | done | rfl | (simp only [List.length_drop, List.length_take]; rfl)) ?_; (with_reducible refine (rowcode_Encode.calls k _ _ y160 t163 t164 _ ?side1 ?side2 A2.out).mono ?_); (case side1 => repeat (first | exact (Kd.R_reads' HO162.out).2.2 | (with_reducible refine Kd.C_alloc ?_ _) | (with_reducible refine Kd.C_drewN ?_ _) | (with_reducible refine Kd.C_drew ?_))); (case side2 => exact (Kd.R_reads' HO162.out).2.1); rintro e w14 ⟨v165, rfl, ho0, hb⟩; refine ⟨_, rfl, ?_⟩; have n0_ := Aside0.mk (Kd.R_below (by (with_reducible repeat (first | apply Kd.R_alloc | apply Kd.R_drewN | apply Kd.R_drew)); exact HO162.out) hb); have n1_ := Aside0.mk (Kd.R_lower ho0 (below_size (by repeat (first | (with_reducible first | exact HB.out | apply below_alloc | apply pw_below_drewN | apply below_drew1) | exact HB.out)))); have n2_ := Aside0.mk (below_step (by repeat (first | (with_reducible first | exact HB.out | apply below_alloc | apply pw_below_drewN | apply below_drew1) | exact HB.out)) hb); clear HO162; clear HB; have HO162 := n0_; have HO166 := n1_; have HB := n2_; clear n0_ n1_ n2_; (try clear hb); (try clear hb2); (try clear hk); (try clear hi); (try clear ho0)) | ((with_reducible refine gate_dst (N := 13) rfl ?_); (try (refine gate_guard (by rfl) ?_; dsimp only)); refine Kd.R_lit (Kd.int .u8) _ 5 ?hg (N := 13) ?hd (xs := ([1, 5] : List Int)) (inner := [.int .u8 1, .int .u8 5]) (ok := fun _ => True) (okp := fun _ => True) ?hr ?hp (fun _ hk => hk) trivial (Below.refl _ _) (Nat.le_refl _) (by simp) ?_; (case hd => rfl); (case hg => rfl); (case hr => first | (go_simp; done) | (go_simp; rfl)); (case hp => exact (Reps.one (show Kd.M (Kd.int .u8) _ _ _ 1 [.int .u8 1] from rfl) (Reps.one (show Kd.M (Kd.int .u8) _ _ _ 5 [.int .u8 5] from rfl) (Reps.none _ _)))); intro v168 w15 ho16 hb hg_ hnew_; clear hg_ hnew_; (first | rw [← Ny167.out] at ho16 | (simp only [Int.reduceToNat] at ho16; rw [← Ny167.out] at ho16)); have n0_ := Aside0.mk (Kd.R_below (by (with_reducible repeat (first | apply Kd.R_alloc | apply Kd.R_drewN | apply Kd.R_drew)); exact HO162.out) hb); have n1_ := Aside0.mk (Kd.R_elder' (by (with_reducible repeat (first | apply Kd.R_alloc | apply Kd.R_drewN | apply Kd.R_drew)); exact HO166.out) (Kd.R_base ho16) hb); have n2_ := Aside0.mk (Kd.R_lower (Kd.R_new' ho16 (Kd.R_lt (by (with_reducible repeat (first | apply Kd.R_alloc | apply Kd.R_drewN | apply Kd.R_drew)); exact HO166.out))) (below_size (by repeat (first | (with_reducible first | exact HB.out | apply below_alloc | apply pw_below_drewN | apply below_drew1) | exact HB.out)))); have n3_ := Aside0.mk (below_step (by repeat (first | (with_reducible first | exact HB.out | apply below_alloc | apply pw_below_drewN | apply below_drew1) | exact HB.out)) hb); clear HO162; clear HO166; clear HB; have HO162 := n0_; have HO166 := n1_; have HO169 := n2_; have HB := n3_; clear n0_ n1_ n2_ n3_; clear hb ho16; obtain ⟨Ao17, co17, eo17⟩ := Kd.R_slice HO169.out; subst eo17) | ((with_reducible refine gate_callee (f := 11) rfl ?_); refine goesL_ (some 14) rfl rfl Try.func11 (by kernel_rfl) rfl #[.slice Ao17 y167.length co17] rfl (by (try simp only [List.map_toArray, List.map_cons, List.map_nil]); first | done | rfl | (simp only [List.length_drop, List.length_take]; rfl)) ?_; (with_reducible refine (rowcode_Decode.calls _ _ y167 t170 t171 _ ?side1 ?side2 A3.out).mono ?_); (case side1 => repeat (first | exact (Kd.R_reads' HO169.out).2.2 | (with_reducible refine Kd.C_alloc ?_ _) | (with_reducible refine Kd.C_drewN ?_ _) | (with_reducible refine Kd.C_drew ?_))); (case side2 => exact (Kd.R_reads' HO169.out).2.1); rintro e w18 ⟨v172, rfl, ho0, hb⟩; refine ⟨_, rfl, ?_⟩; have n0_ := Aside0.mk (Kd.R_elder' (by (with_reducible repeat (first | apply Kd.R_alloc | apply Kd.R_drewN | apply Kd.R_drew)); exact HO162.out) (Kd.R_base ho0) hb); have n1_ := Aside0.mk (Kd.R_below (by (with_reducible repeat (first | apply Kd.R_alloc | apply Kd.R_drewN | apply Kd.R_drew)); exact HO166.out) hb); have n2_ := Aside0.mk (Kd.R_below (by (with_reducible repeat (first | apply Kd.R_alloc | apply Kd.R_drewN | apply Kd.R_drew)); exact HO169.out) hb); have n3_ := Aside0.mk (Kd.R_lower (Kd.R_new' ho0 (Kd.R_lt (by (with_reducible repeat (first | apply Kd.R_alloc | apply Kd.R_drewN | apply Kd.R_drew)); exact HO162.out))) (below_size (by repeat (first | (with_reducible first | exact HB.out | apply below_alloc | apply pw_below_drewN | apply below_drew1) | exact HB.out)))); have n4_ := Aside0.mk (below_step (by repeat (first | (with_reducible first | exact HB.out | apply below_alloc | apply pw_below_drewN | apply below_drew1) | exact HB.out)) hb); clear HO162; clear HO166; clear HO169; clear HB; have HO162 := n0_; have HO166 := n1_; have HO169 := n2_; have HO173 := n3_; have HB := n4_; clear n0_ n1_ n2_ n3_ n4_; (try clear hb); (try clear hb2); (try clear hk); (try clear hi); (try clear ho0); obtain ⟨Ao19, co19, eo19⟩ := Kd.R_slice HO166.out; subst eo19; have p174 : 0 ≤ (0 : Int) := (by omega); have q174 : 0 < (t163.length : Int) := of_decide_eq_true (by first | (with_reducible assumption) | assumption); obtain ⟨ad174, e174, hx174_0⟩ := Kd.at_int (Kd.R_reads' HO166.out).2.2 0 p174 q174; cases e174; have qi174 : (0 < t163.length) = True := eq_true (by omega); (try rw [show ((0 : Int)).toNat = 0 from rfl] at hx174_0); (try rw [Addr.add_zero'] at hx174_0); replace p174 := eq_true p174; replace q174 := eq_true q174; have p175 : 0 ≤ (2 : Int) := (by omega); have q175 : 2 < (t163.length : Int) := of_decide_eq_true (by first | (with_reducible assumption) | assumption); obtain ⟨ad175, e175, hx175_0⟩ := Kd.at_int (Kd.R_reads' HO166.out).2.2 2 p175 q175; obtain rfl : ad174 = ad175 := (by injection e175); (try simp only [show (2 : Int).toNat = 2 from rfl, Nat.reduceMul, Nat.reduceEqDiff, Go.Addr.add, ↓reduceIte] at hx175_0); have qi175 : (2 < t163.length) = True := eq_true (by omega); (try rw [show ((2 : Int)).toNat = 2 from rfl] at hx175_0); replace p175 := eq_true p175; replace q175 := eq_true q175))
              go_ret
              exact ⟨by first | rfl | (simp [errW_none, errW_some] <;> rfl) | (simp [*, errW_none, errW_some] <;> rfl), by repeat (first | (with_reducible first | exact HB.out | apply below_alloc | apply pw_below_drewN | apply below_drew1) | exact HB.out)⟩
            · rw [if_neg c9] at H
              have c9b0 : ((rd t163 2) == 1) = false := beq_eq_false_iff_ne.mpr c9
              have c9b1 : ((rd t163 2) != 1) = true := bne_iff_ne.mpr c9
              obtain rfl := Option.some.inj H
              go_enter Try.func15, Try.ntmps15
              go_wp2_with (first | ((with_reducible refine gate_callee (f := 23) rfl ?_); refine goesL_ (some 6) rfl rfl Try.func23 (by kernel_rfl) rfl #[.int .i64 1] rfl (by (try simp only [List.map_toArray, List.map_cons, List.map_nil]); first | done | rfl | (simp only [List.length_drop, List.length_take]; rfl)) ?_; (with_reducible refine (stileref01_Num.calls 1 t156 t157 t158 t159 _ A1.out).mono ?_); rintro e w20 ⟨rfl, hb⟩; refine ⟨_, rfl, ?_⟩; have n0_ := Aside0.mk (below_step (by repeat (first | (with_reducible first | exact HB.out | apply below_alloc | apply pw_below_drewN | apply below_drew1) | exact HB.out)) hb); clear HB; have HB := n0_; clear n0_; (try clear hb); (try clear hb2); (try clear hk); (try clear hi)) | ((with_reducible refine gate_dst (N := 8) rfl ?_); (try (refine gate_guard (by rfl) ?_; dsimp only)); refine Kd.R_lit k40 _ 40 ?hg (N := 8) ?hd (xs := ([(⟨t156, t157, t158, t159⟩ : S40), (⟨0, 0, (⟨#[]⟩ : ByteArray), false⟩ : S40)] : List (S40))) (inner := [.int .i64 t156, .int .i64 t157, .string t158, .bool t159, .int .i64 0, .int .i64 0, .string (⟨#[]⟩ : ByteArray), .bool false]) (ok := fun _ => True) (okp := fun _ => True) ?hr ?hp (fun _ hk => hk) trivial (Below.refl _ _) (Nat.le_refl _) (by simp) ?_; (case hd => rfl); (case hg => rfl); (case hr => first | (go_simp; done) | (go_simp; rfl)); (case hp => exact (Reps.c4 (show Kd.M k40 _ _ _ (⟨t156, t157, t158, t159⟩ : S40) [.int .i64 t156, .int .i64 t157, .string t158, .bool t159] from (k40_mkM _ _ _ (⟨t156, t157, t158, t159⟩ : S40) )) (Reps.c4 (show Kd.M k40 _ _ _ (⟨0, 0, (⟨#[]⟩ : ByteArray), false⟩ : S40) [.int .i64 0, .int .i64 0, .string (⟨#[]⟩ : ByteArray), .bool false] from (k40_mkM _ _ _ (⟨0, 0, (⟨#[]⟩ : ByteArray), false⟩ : S40) )) (Reps.none _ _)))); intro v161 w21 ho22 hb hg_ hnew_; clear hg_ hnew_; (first | rw [← Ny160.out] at ho22 | (simp only [Int.reduceToNat] at ho22; rw [← Ny160.out] at ho22)); have n0_ := Aside0.mk (Kd.R_lower ho22 (below_size (by repeat (first | (with_reducible first | exact HB.out | apply below_alloc | apply pw_below_drewN | apply below_drew1) | exact HB.out)))); have n1_ := Aside0.mk (below_step (by repeat (first | (with_reducible first | exact HB.out | apply below_alloc | apply pw_below_drewN | apply below_drew1) | exact HB.out)) hb); clear HB; have HO162 := n0_; have HB := n1_; clear n0_ n1_; clear hb ho22; obtain ⟨Ao23, co23, eo23⟩ := Kd.R_slice HO162.out; subst eo23) | ((with_reducible refine gate_callee (f := 9) rfl ?_); refine goesL_ (some 9) rfl rfl Try.func9 (by kernel_rfl) rfl #[.slice Ao23 y160.length co23] rfl (by (try simp only [List.map_toArray, List.map_cons, List.map_nil]); first | done | rfl | (simp only [List.length_drop, List.length_take]; rfl)) ?_; (with_reducible refine (rowcode_Encode.calls k _ _ y160 t163 t164 _ ?side1 ?side2 A2.out).mono ?_); (case side1 => repeat (first | exact (Kd.R_reads' HO162.out).2.2 | (with_reducible refine Kd.C_alloc ?_ _) | (with_reducible refine Kd.C_drewN ?_ _) | (with_reducible refine Kd.C_drew ?_))); (case side2 => exact (Kd.R_reads' HO162.out).2.1); rintro e w24 ⟨v165, rfl, ho0, hb⟩; refine ⟨_, rfl, ?_⟩; have n0_ := Aside0.mk (Kd.R_below (by (with_reducible repeat (first | apply Kd.R_alloc | apply Kd.R_drewN | apply Kd.R_drew)); exact HO162.out) hb); have n1_ := Aside0.mk (Kd.R_lower ho0 (below_size (by repeat (first | (with_reducible first | exact HB.out | apply below_alloc | apply pw_below_drewN | apply below_drew1) | exact HB.out)))); have n2_ := Aside0.mk (below_step (by repeat (first | (with_reducible first | exact HB.out | apply below_alloc | apply pw_below_drewN | apply below_drew1) | exact HB.out)) hb); clear HO162; clear HB; have HO162 := n0_; have HO166 := n1_; have HB := n2_; clear n0_ n1_ n2_; (try clear hb); (try clear hb2); (try clear hk); (try clear hi); (try clear ho0)) | ((with_reducible refine gate_dst (N := 13) rfl ?_); (try (refine gate_guard (by rfl) ?_; dsimp only)); refine Kd.R_lit (Kd.int .u8) _ 5 ?hg (N := 13) ?hd (xs := ([1, 5] : List Int)) (inner := [.int .u8 1, .int .u8 5]) (ok := fun _ => True) (okp := fun _ => True) ?hr ?hp (fun _ hk => hk) trivial (Below.refl _ _) (Nat.le_refl _) (by simp) ?_; (case hd => rfl); (case hg => rfl); (case hr => first | (go_simp; done) | (go_simp; rfl)); (case hp => exact (Reps.one (show Kd.M (Kd.int .u8) _ _ _ 1 [.int .u8 1] from rfl) (Reps.one (show Kd.M (Kd.int .u8) _ _ _ 5 [.int .u8 5] from rfl) (Reps.none _ _)))); intro v168 w25 ho26 hb hg_ hnew_; clear hg_ hnew_; (first | rw [← Ny167.out] at ho26 | (simp only [Int.reduceToNat] at ho26; rw [← Ny167.out] at ho26)); have n0_ := Aside0.mk (Kd.R_below (by (with_reducible repeat (first | apply Kd.R_alloc | apply Kd.R_drewN | apply Kd.R_drew)); exact HO162.out) hb); have n1_ := Aside0.mk (Kd.R_elder' (by (with_reducible repeat (first | apply Kd.R_alloc | apply Kd.R_drewN | apply Kd.R_drew)); exact HO166.out) (Kd.R_base ho26) hb); have n2_ := Aside0.mk (Kd.R_lower (Kd.R_new' ho26 (Kd.R_lt (by (with_reducible repeat (first | apply Kd.R_alloc | apply Kd.R_drewN | apply Kd.R_drew)); exact HO166.out))) (below_size (by repeat (first | (with_reducible first | exact HB.out | apply below_alloc | apply pw_below_drewN | apply below_drew1) | exact HB.out)))); have n3_ := Aside0.mk (below_step (by repeat (first | (with_reducible first | exact HB.out | apply below_alloc | apply pw_below_drewN | apply below_drew1) | exact HB.out)) hb); clear HO162; clear HO166; clear HB; have HO162 := n0_; have HO166 := n1_; have HO169 := n2_; have HB := n3_; clear n0_ n1_ n2_ n3_; clear hb ho26; obtain ⟨Ao27, co27, eo27⟩ := Kd.R_slice HO169.out; subst eo27) | ((with_reducible refine gate_callee (f := 11) rfl ?_); refine goesL_ (some 14) rfl rfl Try.func11 (by kernel_rfl) rfl #[.slice Ao27 y167.length co27] rfl (by (try simp only [List.map_toArray, List.map_cons, List.map_nil]); first | done | rfl | (simp only [List.length_drop, List.length_take]; rfl)) ?_; (with_reducible refine (rowcode_Decode.calls _ _ y167 t170 t171 _ ?side1 ?side2 A3.out).mono ?_); (case side1 => repeat (first | exact (Kd.R_reads' HO169.out).2.2 | (with_reducible refine Kd.C_alloc ?_ _) | (with_reducible refine Kd.C_drewN ?_ _) | (with_reducible refine Kd.C_drew ?_))); (case side2 => exact (Kd.R_reads' HO169.out).2.1); rintro e w28 ⟨v172, rfl, ho0, hb⟩; refine ⟨_, rfl, ?_⟩; have n0_ := Aside0.mk (Kd.R_elder' (by (with_reducible repeat (first | apply Kd.R_alloc | apply Kd.R_drewN | apply Kd.R_drew)); exact HO162.out) (Kd.R_base ho0) hb); have n1_ := Aside0.mk (Kd.R_below (by (with_reducible repeat (first | apply Kd.R_alloc | apply Kd.R_drewN | apply Kd.R_drew)); exact HO166.out) hb); have n2_ := Aside0.mk (Kd.R_below (by (with_reducible repeat (first | apply Kd.R_alloc | apply Kd.R_drewN | apply Kd.R_drew)); exact HO169.out) hb); have n3_ := Aside0.mk (Kd.R_lower (Kd.R_new' ho0 (Kd.R_lt (by (with_reducible repeat (first | apply Kd.R_alloc | apply Kd.R_drewN | apply Kd.R_drew)); exact HO162.out))) (below_size (by repeat (first | (with_reducible first | exact HB.out | apply below_alloc | apply pw_below_drewN | apply below_drew1) | exact HB.out)))); have n4_ := Aside0.mk (below_step (by repeat (first | (with_reducible first | exact HB.out | apply below_alloc | apply pw_below_drewN | apply below_drew1) | exact HB.out)) hb); clear HO162; clear HO166; clear HO169; clear HB; have HO162 := n0_; have HO166 := n1_; have HO169 := n2_; have HO173 := n3_; have HB := n4_; clear n0_ n1_ n2_ n3_ n4_; (try clear hb); (try clear hb2); (try clear hk); (try clear hi); (try clear ho0); obtain ⟨Ao29, co29, eo29⟩ := Kd.R_slice HO166.out; subst eo29; have p174 : 0 ≤ (0 : Int) := (by omega); have q174 : 0 < (t163.length : Int) := of_decide_eq_true (by first | (with_reducible assumption) | assumption); obtain ⟨ad174, e174, hx174_0⟩ := Kd.at_int (Kd.R_reads' HO166.out).2.2 0 p174 q174; cases e174; have qi174 : (0 < t163.length) = True := eq_true (by omega); (try rw [show ((0 : Int)).toNat = 0 from rfl] at hx174_0); (try rw [Addr.add_zero'] at hx174_0); replace p174 := eq_true p174; replace q174 := eq_true q174; have p175 : 0 ≤ (2 : Int) := (by omega); have q175 : 2 < (t163.length : Int) := of_decide_eq_true (by first | (with_reducible assumption) | assumption); obtain ⟨ad175, e175, hx175_0⟩ := Kd.at_int (Kd.R_reads' HO166.out).2.2 2 p175 q175; obtain rfl : ad174 = ad175 := (by injection e175); (try simp only [show (2 : Int).toNat = 2 from rfl, Nat.reduceMul, Nat.reduceEqDiff, Go.Addr.add, ↓reduceIte] at hx175_0); have qi175 : (2 < t163.length) = True := eq_true (by omega); (try rw [show ((2 : Int)).toNat = 2 from rfl] at hx175_0); replace p175 := eq_true p175; replace q175 := eq_true q175))
              go_ret
              exact ⟨by first | rfl | (simp [errW_none, errW_some] <;> rfl) | (simp [*, errW_none, errW_some] <;> rfl), by repeat (first | (with_reducible first | exact HB.out | apply below_alloc | apply pw_below_drewN | apply below_drew1) | exact HB.out)⟩
          · rw [if_neg c8] at H
            exact absurd H (by simp)
        · rw [if_neg c7] at H
          have c7b0 : ((rd t163 0) == 2) = false := beq_eq_false_iff_ne.mpr c7
          have c7b1 : ((rd t163 0) != 2) = true := bne_iff_ne.mpr c7
          obtain rfl := Option.some.inj H
          go_enter Try.func15, Try.ntmps15
          go_wp2_with (first | ((with_reducible refine gate_callee (f := 23) rfl ?_); refine goesL_ (some 6) rfl rfl Try.func23 (by kernel_rfl) rfl #[.int .i64 1] rfl (by (try simp only [List.map_toArray, List.map_cons, List.map_nil]); first | done | rfl | (simp only [List.length_drop, List.length_take]; rfl)) ?_; (with_reducible refine (stileref01_Num.calls 1 t156 t157 t158 t159 _ A1.out).mono ?_); rintro e w30 ⟨rfl, hb⟩; refine ⟨_, rfl, ?_⟩; have n0_ := Aside0.mk (below_step (by repeat (first | (with_reducible first | exact HB.out | apply below_alloc | apply pw_below_drewN | apply below_drew1) | exact HB.out)) hb); clear HB; have HB := n0_; clear n0_; (try clear hb); (try clear hb2); (try clear hk); (try clear hi)) | ((with_reducible refine gate_dst (N := 8) rfl ?_); (try (refine gate_guard (by rfl) ?_; dsimp only)); refine Kd.R_lit k40 _ 40 ?hg (N := 8) ?hd (xs := ([(⟨t156, t157, t158, t159⟩ : S40), (⟨0, 0, (⟨#[]⟩ : ByteArray), false⟩ : S40)] : List (S40))) (inner := [.int .i64 t156, .int .i64 t157, .string t158, .bool t159, .int .i64 0, .int .i64 0, .string (⟨#[]⟩ : ByteArray), .bool false]) (ok := fun _ => True) (okp := fun _ => True) ?hr ?hp (fun _ hk => hk) trivial (Below.refl _ _) (Nat.le_refl _) (by simp) ?_; (case hd => rfl); (case hg => rfl); (case hr => first | (go_simp; done) | (go_simp; rfl)); (case hp => exact (Reps.c4 (show Kd.M k40 _ _ _ (⟨t156, t157, t158, t159⟩ : S40) [.int .i64 t156, .int .i64 t157, .string t158, .bool t159] from (k40_mkM _ _ _ (⟨t156, t157, t158, t159⟩ : S40) )) (Reps.c4 (show Kd.M k40 _ _ _ (⟨0, 0, (⟨#[]⟩ : ByteArray), false⟩ : S40) [.int .i64 0, .int .i64 0, .string (⟨#[]⟩ : ByteArray), .bool false] from (k40_mkM _ _ _ (⟨0, 0, (⟨#[]⟩ : ByteArray), false⟩ : S40) )) (Reps.none _ _)))); intro v161 w31 ho32 hb hg_ hnew_; clear hg_ hnew_; (first | rw [← Ny160.out] at ho32 | (simp only [Int.reduceToNat] at ho32; rw [← Ny160.out] at ho32)); have n0_ := Aside0.mk (Kd.R_lower ho32 (below_size (by repeat (first | (with_reducible first | exact HB.out | apply below_alloc | apply pw_below_drewN | apply below_drew1) | exact HB.out)))); have n1_ := Aside0.mk (below_step (by repeat (first | (with_reducible first | exact HB.out | apply below_alloc | apply pw_below_drewN | apply below_drew1) | exact HB.out)) hb); clear HB; have HO162 := n0_; have HB := n1_; clear n0_ n1_; clear hb ho32; obtain ⟨Ao33, co33, eo33⟩ := Kd.R_slice HO162.out; subst eo33) | ((with_reducible refine gate_callee (f := 9) rfl ?_); refine goesL_ (some 9) rfl rfl Try.func9 (by kernel_rfl) rfl #[.slice Ao33 y160.length co33] rfl (by (try simp only [List.map_toArray, List.map_cons, List.map_nil]); first | done | rfl | (simp only [List.length_drop, List.length_take]; rfl)) ?_; (with_reducible refine (rowcode_Encode.calls k _ _ y160 t163 t164 _ ?side1 ?side2 A2.out).mono ?_); (case side1 => repeat (first | exact (Kd.R_reads' HO162.out).2.2 | (with_reducible refine Kd.C_alloc ?_ _) | (with_reducible refine Kd.C_drewN ?_ _) | (with_reducible refine Kd.C_drew ?_))); (case side2 => exact (Kd.R_reads' HO162.out).2.1); rintro e w34 ⟨v165, rfl, ho0, hb⟩; refine ⟨_, rfl, ?_⟩; have n0_ := Aside0.mk (Kd.R_below (by (with_reducible repeat (first | apply Kd.R_alloc | apply Kd.R_drewN | apply Kd.R_drew)); exact HO162.out) hb); have n1_ := Aside0.mk (Kd.R_lower ho0 (below_size (by repeat (first | (with_reducible first | exact HB.out | apply below_alloc | apply pw_below_drewN | apply below_drew1) | exact HB.out)))); have n2_ := Aside0.mk (below_step (by repeat (first | (with_reducible first | exact HB.out | apply below_alloc | apply pw_below_drewN | apply below_drew1) | exact HB.out)) hb); clear HO162; clear HB; have HO162 := n0_; have HO166 := n1_; have HB := n2_; clear n0_ n1_ n2_; (try clear hb); (try clear hb2); (try clear hk); (try clear hi); (try clear ho0)) | ((with_reducible refine gate_dst (N := 13) rfl ?_); (try (refine gate_guard (by rfl) ?_; dsimp only)); refine Kd.R_lit (Kd.int .u8) _ 5 ?hg (N := 13) ?hd (xs := ([1, 5] : List Int)) (inner := [.int .u8 1, .int .u8 5]) (ok := fun _ => True) (okp := fun _ => True) ?hr ?hp (fun _ hk => hk) trivial (Below.refl _ _) (Nat.le_refl _) (by simp) ?_; (case hd => rfl); (case hg => rfl); (case hr => first | (go_simp; done) | (go_simp; rfl)); (case hp => exact (Reps.one (show Kd.M (Kd.int .u8) _ _ _ 1 [.int .u8 1] from rfl) (Reps.one (show Kd.M (Kd.int .u8) _ _ _ 5 [.int .u8 5] from rfl) (Reps.none _ _)))); intro v168 w35 ho36 hb hg_ hnew_; clear hg_ hnew_; (first | rw [← Ny167.out] at ho36 | (simp only [Int.reduceToNat] at ho36; rw [← Ny167.out] at ho36)); have n0_ := Aside0.mk (Kd.R_below (by (with_reducible repeat (first | apply Kd.R_alloc | apply Kd.R_drewN | apply Kd.R_drew)); exact HO162.out) hb); have n1_ := Aside0.mk (Kd.R_elder' (by (with_reducible repeat (first | apply Kd.R_alloc | apply Kd.R_drewN | apply Kd.R_drew)); exact HO166.out) (Kd.R_base ho36) hb); have n2_ := Aside0.mk (Kd.R_lower (Kd.R_new' ho36 (Kd.R_lt (by (with_reducible repeat (first | apply Kd.R_alloc | apply Kd.R_drewN | apply Kd.R_drew)); exact HO166.out))) (below_size (by repeat (first | (with_reducible first | exact HB.out | apply below_alloc | apply pw_below_drewN | apply below_drew1) | exact HB.out)))); have n3_ := Aside0.mk (below_step (by repeat (first | (with_reducible first | exact HB.out | apply below_alloc | apply pw_below_drewN | apply below_drew1) | exact HB.out)) hb); clear HO162; clear HO166; clear HB; have HO162 := n0_; have HO166 := n1_; have HO169 := n2_; have HB := n3_; clear n0_ n1_ n2_ n3_; clear hb ho36; obtain ⟨Ao37, co37, eo37⟩ := Kd.R_slice HO169.out; subst eo37) | ((with_reducible refine gate_callee (f := 11) rfl ?_); refine goesL_ (some 14) rfl rfl Try.func11 (by kernel_rfl) rfl #[.slice Ao37 y167.length co37] rfl (by (try simp only [List.map_toArray, List.map_cons, List.map_nil]); first | done | rfl | (simp only [List.length_drop, List.length_take]; rfl)) ?_; (with_reducible refine (rowcode_Decode.calls _ _ y167 t170 t171 _ ?side1 ?side2 A3.out).mono ?_); (case side1 => repeat (first | exact (Kd.R_reads' HO169.out).2.2 | (with_reducible refine Kd.C_alloc ?_ _) | (with_reducible refine Kd.C_drewN ?_ _) | (with_reducible refine Kd.C_drew ?_))); (case side2 => exact (Kd.R_reads' HO169.out).2.1); rintro e w38 ⟨v172, rfl, ho0, hb⟩; refine ⟨_, rfl, ?_⟩; have n0_ := Aside0.mk (Kd.R_elder' (by (with_reducible repeat (first | apply Kd.R_alloc | apply Kd.R_drewN | apply Kd.R_drew)); exact HO162.out) (Kd.R_base ho0) hb); have n1_ := Aside0.mk (Kd.R_below (by (with_reducible repeat (first | apply Kd.R_alloc | apply Kd.R_drewN | apply Kd.R_drew)); exact HO166.out) hb); have n2_ := Aside0.mk (Kd.R_below (by (with_reducible repeat (first | apply Kd.R_alloc | apply Kd.R_drewN | apply Kd.R_drew)); exact HO169.out) hb); have n3_ := Aside0.mk (Kd.R_lower (Kd.R_new' ho0 (Kd.R_lt (by (with_reducible repeat (first | apply Kd.R_alloc | apply Kd.R_drewN | apply Kd.R_drew)); exact HO162.out))) (below_size (by repeat (first | (with_reducible first | exact HB.out | apply below_alloc | apply pw_below_drewN | apply below_drew1) | exact HB.out)))); have n4_ := Aside0.mk (below_step (by repeat (first | (with_reducible first | exact HB.out | apply below_alloc | apply pw_below_drewN | apply below_drew1) | exact HB.out)) hb); clear HO162; clear HO166; clear HO169; clear HB; have HO162 := n0_; have HO166 := n1_; have HO169 := n2_; have HO173 := n3_; have HB := n4_; clear n0_ n1_ n2_ n3_ n4_; (try clear hb); (try clear hb2); (try clear hk); (try clear hi); (try clear ho0); obtain ⟨Ao39, co39, eo39⟩ := Kd.R_slice HO166.out; subst eo39; have p174 : 0 ≤ (0 : Int) := (by omega); have q174 : 0 < (t163.length : Int) := of_decide_eq_true (by first | (with_reducible assumption) | assumption); obtain ⟨ad174, e174, hx174_0⟩ := Kd.at_int (Kd.R_reads' HO166.out).2.2 0 p174 q174; cases e174; have qi174 : (0 < t163.length) = True := eq_true (by omega); (try rw [show ((0 : Int)).toNat = 0 from rfl] at hx174_0); (try rw [Addr.add_zero'] at hx174_0); replace p174 := eq_true p174; replace q174 := eq_true q174))
          go_ret
          exact ⟨by first | rfl | (simp [errW_none, errW_some] <;> rfl) | (simp [*, errW_none, errW_some] <;> rfl), by repeat (first | (with_reducible first | exact HB.out | apply below_alloc | apply pw_below_drewN | apply below_drew1) | exact HB.out)⟩
      · rw [if_neg c6] at H
        exact absurd H (by simp)
    · rw [if_neg c5] at H
      have c5b0 : ((t163.length : Int) == 11) = false := beq_eq_false_iff_ne.mpr c5
      have c5b1 : ((t163.length : Int) != 11) = true := bne_iff_ne.mpr c5
      obtain rfl := Option.some.inj H
      go_enter Try.func15, Try.ntmps15
      go_wp2_with (first | ((with_reducible refine gate_callee (f := 23) rfl ?_); refine goesL_ (some 6) rfl rfl Try.func23 (by kernel_rfl) rfl #[.int .i64 1] rfl (by (try simp only [List.map_toArray, List.map_cons, List.map_nil]); first | done | rfl | (simp only [List.length_drop, List.length_take]; rfl)) ?_; (with_reducible refine (stileref01_Num.calls 1 t156 t157 t158 t159 _ A1.out).mono ?_); rintro e w40 ⟨rfl, hb⟩; refine ⟨_, rfl, ?_⟩; have n0_ := Aside0.mk (below_step (by repeat (first | (with_reducible first | exact HB.out | apply below_alloc | apply pw_below_drewN | apply below_drew1) | exact HB.out)) hb); clear HB; have HB := n0_; clear n0_; (try clear hb); (try clear hb2); (try clear hk); (try clear hi)) | ((with_reducible refine gate_dst (N := 8) rfl ?_); (try (refine gate_guard (by rfl) ?_; dsimp only)); refine Kd.R_lit k40 _ 40 ?hg (N := 8) ?hd (xs := ([(⟨t156, t157, t158, t159⟩ : S40), (⟨0, 0, (⟨#[]⟩ : ByteArray), false⟩ : S40)] : List (S40))) (inner := [.int .i64 t156, .int .i64 t157, .string t158, .bool t159, .int .i64 0, .int .i64 0, .string (⟨#[]⟩ : ByteArray), .bool false]) (ok := fun _ => True) (okp := fun _ => True) ?hr ?hp (fun _ hk => hk) trivial (Below.refl _ _) (Nat.le_refl _) (by simp) ?_; (case hd => rfl); (case hg => rfl); (case hr => first | (go_simp; done) | (go_simp; rfl)); (case hp => exact (Reps.c4 (show Kd.M k40 _ _ _ (⟨t156, t157, t158, t159⟩ : S40) [.int .i64 t156, .int .i64 t157, .string t158, .bool t159] from (k40_mkM _ _ _ (⟨t156, t157, t158, t159⟩ : S40) )) (Reps.c4 (show Kd.M k40 _ _ _ (⟨0, 0, (⟨#[]⟩ : ByteArray), false⟩ : S40) [.int .i64 0, .int .i64 0, .string (⟨#[]⟩ : ByteArray), .bool false] from (k40_mkM _ _ _ (⟨0, 0, (⟨#[]⟩ : ByteArray), false⟩ : S40) )) (Reps.none _ _)))); intro v161 w41 ho42 hb hg_ hnew_; clear hg_ hnew_; (first | rw [← Ny160.out] at ho42 | (simp only [Int.reduceToNat] at ho42; rw [← Ny160.out] at ho42)); have n0_ := Aside0.mk (Kd.R_lower ho42 (below_size (by repeat (first | (with_reducible first | exact HB.out | apply below_alloc | apply pw_below_drewN | apply below_drew1) | exact HB.out)))); have n1_ := Aside0.mk (below_step (by repeat (first | (with_reducible first | exact HB.out | apply below_alloc | apply pw_below_drewN | apply below_drew1) | exact HB.out)) hb); clear HB; have HO162 := n0_; have HB := n1_; clear n0_ n1_; clear hb ho42; obtain ⟨Ao43, co43, eo43⟩ := Kd.R_slice HO162.out; subst eo43) | ((with_reducible refine gate_callee (f := 9) rfl ?_); refine goesL_ (some 9) rfl rfl Try.func9 (by kernel_rfl) rfl #[.slice Ao43 y160.length co43] rfl (by (try simp only [List.map_toArray, List.map_cons, List.map_nil]); first | done | rfl | (simp only [List.length_drop, List.length_take]; rfl)) ?_; (with_reducible refine (rowcode_Encode.calls k _ _ y160 t163 t164 _ ?side1 ?side2 A2.out).mono ?_); (case side1 => repeat (first | exact (Kd.R_reads' HO162.out).2.2 | (with_reducible refine Kd.C_alloc ?_ _) | (with_reducible refine Kd.C_drewN ?_ _) | (with_reducible refine Kd.C_drew ?_))); (case side2 => exact (Kd.R_reads' HO162.out).2.1); rintro e w44 ⟨v165, rfl, ho0, hb⟩; refine ⟨_, rfl, ?_⟩; have n0_ := Aside0.mk (Kd.R_below (by (with_reducible repeat (first | apply Kd.R_alloc | apply Kd.R_drewN | apply Kd.R_drew)); exact HO162.out) hb); have n1_ := Aside0.mk (Kd.R_lower ho0 (below_size (by repeat (first | (with_reducible first | exact HB.out | apply below_alloc | apply pw_below_drewN | apply below_drew1) | exact HB.out)))); have n2_ := Aside0.mk (below_step (by repeat (first | (with_reducible first | exact HB.out | apply below_alloc | apply pw_below_drewN | apply below_drew1) | exact HB.out)) hb); clear HO162; clear HB; have HO162 := n0_; have HO166 := n1_; have HB := n2_; clear n0_ n1_ n2_; (try clear hb); (try clear hb2); (try clear hk); (try clear hi); (try clear ho0)) | ((with_reducible refine gate_dst (N := 13) rfl ?_); (try (refine gate_guard (by rfl) ?_; dsimp only)); refine Kd.R_lit (Kd.int .u8) _ 5 ?hg (N := 13) ?hd (xs := ([1, 5] : List Int)) (inner := [.int .u8 1, .int .u8 5]) (ok := fun _ => True) (okp := fun _ => True) ?hr ?hp (fun _ hk => hk) trivial (Below.refl _ _) (Nat.le_refl _) (by simp) ?_; (case hd => rfl); (case hg => rfl); (case hr => first | (go_simp; done) | (go_simp; rfl)); (case hp => exact (Reps.one (show Kd.M (Kd.int .u8) _ _ _ 1 [.int .u8 1] from rfl) (Reps.one (show Kd.M (Kd.int .u8) _ _ _ 5 [.int .u8 5] from rfl) (Reps.none _ _)))); intro v168 w45 ho46 hb hg_ hnew_; clear hg_ hnew_; (first | rw [← Ny167.out] at ho46 | (simp only [Int.reduceToNat] at ho46; rw [← Ny167.out] at ho46)); have n0_ := Aside0.mk (Kd.R_below (by (with_reducible repeat (first | apply Kd.R_alloc | apply Kd.R_drewN | apply Kd.R_drew)); exact HO162.out) hb); have n1_ := Aside0.mk (Kd.R_elder' (by (with_reducible repeat (first | apply Kd.R_alloc | apply Kd.R_drewN | apply Kd.R_drew)); exact HO166.out) (Kd.R_base ho46) hb); have n2_ := Aside0.mk (Kd.R_lower (Kd.R_new' ho46 (Kd.R_lt (by (with_reducible repeat (first | apply Kd.R_alloc | apply Kd.R_drewN | apply Kd.R_drew)); exact HO166.out))) (below_size (by repeat (first | (with_reducible first | exact HB.out | apply below_alloc | apply pw_below_drewN | apply below_drew1) | exact HB.out)))); have n3_ := Aside0.mk (below_step (by repeat (first | (with_reducible first | exact HB.out | apply below_alloc | apply pw_below_drewN | apply below_drew1) | exact HB.out)) hb); clear HO162; clear HO166; clear HB; have HO162 := n0_; have HO166 := n1_; have HO169 := n2_; have HB := n3_; clear n0_ n1_ n2_ n3_; clear hb ho46; obtain ⟨Ao47, co47, eo47⟩ := Kd.R_slice HO169.out; subst eo47) | ((with_reducible refine gate_callee (f := 11) rfl ?_); refine goesL_ (some 14) rfl rfl Try.func11 (by kernel_rfl) rfl #[.slice Ao47 y167.length co47] rfl (by (try simp only [List.map_toArray, List.map_cons, List.map_nil]); first | done | rfl | (simp only [List.length_drop, List.length_take]; rfl)) ?_; (with_reducible refine (rowcode_Decode.calls _ _ y167 t170 t171 _ ?side1 ?side2 A3.out).mono ?_); (case side1 => repeat (first | exact (Kd.R_reads' HO169.out).2.2 | (with_reducible refine Kd.C_alloc ?_ _) | (with_reducible refine Kd.C_drewN ?_ _) | (with_reducible refine Kd.C_drew ?_))); (case side2 => exact (Kd.R_reads' HO169.out).2.1); rintro e w48 ⟨v172, rfl, ho0, hb⟩; refine ⟨_, rfl, ?_⟩; have n0_ := Aside0.mk (Kd.R_elder' (by (with_reducible repeat (first | apply Kd.R_alloc | apply Kd.R_drewN | apply Kd.R_drew)); exact HO162.out) (Kd.R_base ho0) hb); have n1_ := Aside0.mk (Kd.R_below (by (with_reducible repeat (first | apply Kd.R_alloc | apply Kd.R_drewN | apply Kd.R_drew)); exact HO166.out) hb); have n2_ := Aside0.mk (Kd.R_below (by (with_reducible repeat (first | apply Kd.R_alloc | apply Kd.R_drewN | apply Kd.R_drew)); exact HO169.out) hb); have n3_ := Aside0.mk (Kd.R_lower (Kd.R_new' ho0 (Kd.R_lt (by (with_reducible repeat (first | apply Kd.R_alloc | apply Kd.R_drewN | apply Kd.R_drew)); exact HO162.out))) (below_size (by repeat (first | (with_reducible first | exact HB.out | apply below_alloc | apply pw_below_drewN | apply below_drew1) | exact HB.out)))); have n4_ := Aside0.mk (below_step (by repeat (first | (with_reducible first | exact HB.out | apply below_alloc | apply pw_below_drewN | apply below_drew1) | exact HB.out)) hb); clear HO162; clear HO166; clear HO169; clear HB; have HO162 := n0_; have HO166 := n1_; have HO169 := n2_; have HO173 := n3_; have HB := n4_; clear n0_ n1_ n2_ n3_ n4_; (try clear hb); (try clear hb2); (try clear hk); (try clear hi); (try clear ho0); obtain ⟨Ao49, co49, eo49⟩ := Kd.R_slice HO166.out; subst eo49))
      go_ret
      exact ⟨by first | rfl | (simp [errW_none, errW_some] <;> rfl) | (simp [*, errW_none, errW_some] <;> rfl), by repeat (first | (with_reducible first | exact HB.out | apply below_alloc | apply pw_below_drewN | apply below_drew1) | exact HB.out)⟩
  · rw [if_neg c4] at H
    have c4b0 : (t164 == 0) = false := beq_eq_false_iff_ne.mpr c4
    have c4b1 : (t164 != 0) = true := bne_iff_ne.mpr c4
    obtain rfl := Option.some.inj H
    go_enter Try.func15, Try.ntmps15
    go_wp2_with (first | ((with_reducible refine gate_callee (f := 23) rfl ?_); refine goesL_ (some 6) rfl rfl Try.func23 (by kernel_rfl) rfl #[.int .i64 1] rfl (by (try simp only [List.map_toArray, List.map_cons, List.map_nil]); first | done | rfl | (simp only [List.length_drop, List.length_take]; rfl)) ?_; (with_reducible refine (stileref01_Num.calls 1 t156 t157 t158 t159 _ A1.out).mono ?_); rintro e w50 ⟨rfl, hb⟩; refine ⟨_, rfl, ?_⟩; have n0_ := Aside0.mk (below_step (by repeat (first | (with_reducible first | exact HB.out | apply below_alloc | apply pw_below_drewN | apply below_drew1) | exact HB.out)) hb); clear HB; have HB := n0_; clear n0_; (try clear hb); (try clear hb2); (try clear hk); (try clear hi)) | ((with_reducible refine gate_dst (N := 8) rfl ?_); (try (refine gate_guard (by rfl) ?_; dsimp only)); refine Kd.R_lit k40 _ 40 ?hg (N := 8) ?hd (xs := ([(⟨t156, t157, t158, t159⟩ : S40), (⟨0, 0, (⟨#[]⟩ : ByteArray), false⟩ : S40)] : List (S40))) (inner := [.int .i64 t156, .int .i64 t157, .string t158, .bool t159, .int .i64 0, .int .i64 0, .string (⟨#[]⟩ : ByteArray), .bool false]) (ok := fun _ => True) (okp := fun _ => True) ?hr ?hp (fun _ hk => hk) trivial (Below.refl _ _) (Nat.le_refl _) (by simp) ?_; (case hd => rfl); (case hg => rfl); (case hr => first | (go_simp; done) | (go_simp; rfl)); (case hp => exact (Reps.c4 (show Kd.M k40 _ _ _ (⟨t156, t157, t158, t159⟩ : S40) [.int .i64 t156, .int .i64 t157, .string t158, .bool t159] from (k40_mkM _ _ _ (⟨t156, t157, t158, t159⟩ : S40) )) (Reps.c4 (show Kd.M k40 _ _ _ (⟨0, 0, (⟨#[]⟩ : ByteArray), false⟩ : S40) [.int .i64 0, .int .i64 0, .string (⟨#[]⟩ : ByteArray), .bool false] from (k40_mkM _ _ _ (⟨0, 0, (⟨#[]⟩ : ByteArray), false⟩ : S40) )) (Reps.none _ _)))); intro v161 w51 ho52 hb hg_ hnew_; clear hg_ hnew_; (first | rw [← Ny160.out] at ho52 | (simp only [Int.reduceToNat] at ho52; rw [← Ny160.out] at ho52)); have n0_ := Aside0.mk (Kd.R_lower ho52 (below_size (by repeat (first | (with_reducible first | exact HB.out | apply below_alloc | apply pw_below_drewN | apply below_drew1) | exact HB.out)))); have n1_ := Aside0.mk (below_step (by repeat (first | (with_reducible first | exact HB.out | apply below_alloc | apply pw_below_drewN | apply below_drew1) | exact HB.out)) hb); clear HB; have HO162 := n0_; have HB := n1_; clear n0_ n1_; clear hb ho52; obtain ⟨Ao53, co53, eo53⟩ := Kd.R_slice HO162.out; subst eo53) | ((with_reducible refine gate_callee (f := 9) rfl ?_); refine goesL_ (some 9) rfl rfl Try.func9 (by kernel_rfl) rfl #[.slice Ao53 y160.length co53] rfl (by (try simp only [List.map_toArray, List.map_cons, List.map_nil]); first | done | rfl | (simp only [List.length_drop, List.length_take]; rfl)) ?_; (with_reducible refine (rowcode_Encode.calls k _ _ y160 t163 t164 _ ?side1 ?side2 A2.out).mono ?_); (case side1 => repeat (first | exact (Kd.R_reads' HO162.out).2.2 | (with_reducible refine Kd.C_alloc ?_ _) | (with_reducible refine Kd.C_drewN ?_ _) | (with_reducible refine Kd.C_drew ?_))); (case side2 => exact (Kd.R_reads' HO162.out).2.1); rintro e w54 ⟨v165, rfl, ho0, hb⟩; refine ⟨_, rfl, ?_⟩; have n0_ := Aside0.mk (Kd.R_below (by (with_reducible repeat (first | apply Kd.R_alloc | apply Kd.R_drewN | apply Kd.R_drew)); exact HO162.out) hb); have n1_ := Aside0.mk (Kd.R_lower ho0 (below_size (by repeat (first | (with_reducible first | exact HB.out | apply below_alloc | apply pw_below_drewN | apply below_drew1) | exact HB.out)))); have n2_ := Aside0.mk (below_step (by repeat (first | (with_reducible first | exact HB.out | apply below_alloc | apply pw_below_drewN | apply below_drew1) | exact HB.out)) hb); clear HO162; clear HB; have HO162 := n0_; have HO166 := n1_; have HB := n2_; clear n0_ n1_ n2_; (try clear hb); (try clear hb2); (try clear hk); (try clear hi); (try clear ho0)) | ((with_reducible refine gate_dst (N := 13) rfl ?_); (try (refine gate_guard (by rfl) ?_; dsimp only)); refine Kd.R_lit (Kd.int .u8) _ 5 ?hg (N := 13) ?hd (xs := ([1, 5] : List Int)) (inner := [.int .u8 1, .int .u8 5]) (ok := fun _ => True) (okp := fun _ => True) ?hr ?hp (fun _ hk => hk) trivial (Below.refl _ _) (Nat.le_refl _) (by simp) ?_; (case hd => rfl); (case hg => rfl); (case hr => first | (go_simp; done) | (go_simp; rfl)); (case hp => exact (Reps.one (show Kd.M (Kd.int .u8) _ _ _ 1 [.int .u8 1] from rfl) (Reps.one (show Kd.M (Kd.int .u8) _ _ _ 5 [.int .u8 5] from rfl) (Reps.none _ _)))); intro v168 w55 ho56 hb hg_ hnew_; clear hg_ hnew_; (first | rw [← Ny167.out] at ho56 | (simp only [Int.reduceToNat] at ho56; rw [← Ny167.out] at ho56)); have n0_ := Aside0.mk (Kd.R_below (by (with_reducible repeat (first | apply Kd.R_alloc | apply Kd.R_drewN | apply Kd.R_drew)); exact HO162.out) hb); have n1_ := Aside0.mk (Kd.R_elder' (by (with_reducible repeat (first | apply Kd.R_alloc | apply Kd.R_drewN | apply Kd.R_drew)); exact HO166.out) (Kd.R_base ho56) hb); have n2_ := Aside0.mk (Kd.R_lower (Kd.R_new' ho56 (Kd.R_lt (by (with_reducible repeat (first | apply Kd.R_alloc | apply Kd.R_drewN | apply Kd.R_drew)); exact HO166.out))) (below_size (by repeat (first | (with_reducible first | exact HB.out | apply below_alloc | apply pw_below_drewN | apply below_drew1) | exact HB.out)))); have n3_ := Aside0.mk (below_step (by repeat (first | (with_reducible first | exact HB.out | apply below_alloc | apply pw_below_drewN | apply below_drew1) | exact HB.out)) hb); clear HO162; clear HO166; clear HB; have HO162 := n0_; have HO166 := n1_; have HO169 := n2_; have HB := n3_; clear n0_ n1_ n2_ n3_; clear hb ho56; obtain ⟨Ao57, co57, eo57⟩ := Kd.R_slice HO169.out; subst eo57) | ((with_reducible refine gate_callee (f := 11) rfl ?_); refine goesL_ (some 14) rfl rfl Try.func11 (by kernel_rfl) rfl #[.slice Ao57 y167.length co57] rfl (by (try simp only [List.map_toArray, List.map_cons, List.map_nil]); first | done | rfl | (simp only [List.length_drop, List.length_take]; rfl)) ?_; (with_reducible refine (rowcode_Decode.calls _ _ y167 t170 t171 _ ?side1 ?side2 A3.out).mono ?_); (case side1 => repeat (first | exact (Kd.R_reads' HO169.out).2.2 | (with_reducible refine Kd.C_alloc ?_ _) | (with_reducible refine Kd.C_drewN ?_ _) | (with_reducible refine Kd.C_drew ?_))); (case side2 => exact (Kd.R_reads' HO169.out).2.1); rintro e w58 ⟨v172, rfl, ho0, hb⟩; refine ⟨_, rfl, ?_⟩; have n0_ := Aside0.mk (Kd.R_elder' (by (with_reducible repeat (first | apply Kd.R_alloc | apply Kd.R_drewN | apply Kd.R_drew)); exact HO162.out) (Kd.R_base ho0) hb); have n1_ := Aside0.mk (Kd.R_below (by (with_reducible repeat (first | apply Kd.R_alloc | apply Kd.R_drewN | apply Kd.R_drew)); exact HO166.out) hb); have n2_ := Aside0.mk (Kd.R_below (by (with_reducible repeat (first | apply Kd.R_alloc | apply Kd.R_drewN | apply Kd.R_drew)); exact HO169.out) hb); have n3_ := Aside0.mk (Kd.R_lower (Kd.R_new' ho0 (Kd.R_lt (by (with_reducible repeat (first | apply Kd.R_alloc | apply Kd.R_drewN | apply Kd.R_drew)); exact HO162.out))) (below_size (by repeat (first | (with_reducible first | exact HB.out | apply below_alloc | apply pw_below_drewN | apply below_drew1) | exact HB.out)))); have n4_ := Aside0.mk (below_step (by repeat (first | (with_reducible first | exact HB.out | apply below_alloc | apply pw_below_drewN | apply below_drew1) | exact HB.out)) hb); clear HO162; clear HO166; clear HO169; clear HB; have HO162 := n0_; have HO166 := n1_; have HO169 := n2_; have HO173 := n3_; have HB := n4_; clear n0_ n1_ n2_ n3_ n4_; (try clear hb); (try clear hb2); (try clear hk); (try clear hi); (try clear ho0)))
    go_ret
    exact ⟨by first | rfl | (simp [errW_none, errW_some] <;> rfl) | (simp [*, errW_none, errW_some] <;> rfl), by repeat (first | (with_reducible first | exact HB.out | apply below_alloc | apply pw_below_drewN | apply below_drew1) | exact HB.out)⟩

end Go.Proofs.Ythcoiomnlcagcaa.PRZ

namespace Go.Proofs.Ythcoiomnlcagcaa.PRZ
open Go.RowKit Go.Proofs.YthcoiomnlcagcaaW.PrintWords Go.Proofs.YthcoiomnlcagcaaW.PrintLast Go.Proofs.YthcoiomnlcagcaaW.PrintMore
attribute [local go_sem] max2_int min2_int max_two min_two max_three min_three max_four min_four   -- for this text's walks alone
set_option linter.unusedVariables false
set_option linter.unusedSimpArgs false

/-! ### stilelaw04_RowSizes: function 6 -/
mutual
def stilelaw04_RowSizes.l0 : Nat → List (S40) → List Int → Int → Int → Bool → Int → Option (Bool)
  | 0, _, _, _, _, _, _ => none
  | k + 1, x3, x4, x5, x6, x7, x8 => if x8 < (x3.length : Int) then (if 0 ≤ x8 then (if ((rd_T40 x3 x8).f0) = 1 then (stilelaw04_RowSizes.j1 k x3 x4 x5 (wrap64 ((wrap64 (x6 + 1)) + 8)) x7 x8) else (stilelaw04_RowSizes.j1 k x3 x4 x5 (wrap64 (x6 + 1)) x7 x8)) else (none)) else (if x7 = true then ((stilelaw04_alive.f k).bind fun t187 => (if t187 = true then (if x5 = 42 then (some ((x4.length : Int) == 0)) else (some false)) else (some false))) else ((stilelaw04_alive.f k).bind fun t188 => (if t188 = true then (if x5 = 0 then (some ((x4.length : Int) == x6)) else (some false)) else (some false))))
def stilelaw04_RowSizes.j1 : Nat → List (S40) → List Int → Int → Int → Bool → Int → Option (Bool)
  | 0, _, _, _, _, _, _ => none
  | k + 1, x3, x4, x5, x6, x7, x8 => if 0 ≤ x8 then (if x8 < (x3.length : Int) then (if ((rd_T40 x3 x8).f0) = 2 then (if x7 = true then (stilelaw04_RowSizes.l0 k x3 x4 x5 (wrap64 ((wrap64 (x6 + 2)) + (((rd_T40 x3 x8).f2).size : Int))) true (wrap64 (x8 + 1))) else (stilelaw04_RowSizes.l0 k x3 x4 x5 (wrap64 ((wrap64 (x6 + 2)) + (((rd_T40 x3 x8).f2).size : Int))) (decide ((((rd_T40 x3 x8).f2).size : Int) > 400)) (wrap64 (x8 + 1)))) else (stilelaw04_RowSizes.l0 k x3 x4 x5 x6 x7 (wrap64 (x8 + 1)))) else (none)) else (none)
end
def stilelaw04_RowSizes.f (k : Nat) (l0 : List (S44)) : Option (Bool) := (stilelaw03_Row.f k l0).bind fun t176 => ((rowcode_Encode.f k t176).bind fun bt179 => (stilelaw04_RowSizes.l0 k t176 bt179.1 bt179.2 1 (decide ((t176.length : Int) > 12)) 0))
theorem stilelaw04_RowSizes.mono_l : ∀ k, (∀ y0 y1 y2 y3 y4 y5, LeO (stilelaw04_RowSizes.l0 k y0 y1 y2 y3 y4 y5) (stilelaw04_RowSizes.l0 (k + 1) y0 y1 y2 y3 y4 y5)) ∧ (∀ y0 y1 y2 y3 y4 y5, LeO (stilelaw04_RowSizes.j1 k y0 y1 y2 y3 y4 y5) (stilelaw04_RowSizes.j1 (k + 1) y0 y1 y2 y3 y4 y5))
  | 0 => ⟨fun _ _ _ _ _ _ r h => by simp [stilelaw04_RowSizes.l0] at h, fun _ _ _ _ _ _ r h => by simp [stilelaw04_RowSizes.j1] at h⟩
  | k + 1 => by
    obtain ⟨ih0, ih1⟩ := stilelaw04_RowSizes.mono_l k
    refine ⟨?_, ?_⟩
    · intro y0 y1 y2 y3 y4 y5
      unfold stilelaw04_RowSizes.l0
      repeat' first
      | (with_reducible exact ih0 _ _ _ _ _ _)
      | (with_reducible exact ih1 _ _ _ _ _ _)
      | (with_reducible exact rowcode_Encode.mono _ _)
      | (with_reducible exact stilelaw03_Row.mono _ _)
      | (with_reducible exact stilelaw04_alive.mono _)
      | (with_reducible exact LeO.refl _)
      | (with_reducible exact LeO.none _)
      | (with_reducible refine LeO.ite ?_ ?_)
      | (with_reducible refine LeO.bind ?_ (fun _ => ?_))
      | exact ih0 _ _ _ _ _ _
      | exact ih1 _ _ _ _ _ _
      | exact rowcode_Encode.mono _ _
      | exact stilelaw03_Row.mono _ _
      | exact stilelaw04_alive.mono _
      | exact LeO.none _
      | refine LeO.ite ?_ ?_
      | refine LeO.bind ?_ (fun _ => ?_)
    · intro y0 y1 y2 y3 y4 y5
      unfold stilelaw04_RowSizes.j1
      repeat' first
      | (with_reducible exact ih0 _ _ _ _ _ _)
      | (with_reducible exact ih1 _ _ _ _ _ _)
      | (with_reducible exact rowcode_Encode.mono _ _)
      | (with_reducible exact stilelaw03_Row.mono _ _)
      | (with_reducible exact stilelaw04_alive.mono _)
      | (with_reducible exact LeO.refl _)
      | (with_reducible exact LeO.none _)
      | (with_reducible refine LeO.ite ?_ ?_)
      | (with_reducible refine LeO.bind ?_ (fun _ => ?_))
      | exact ih0 _ _ _ _ _ _
      | exact ih1 _ _ _ _ _ _
      | exact rowcode_Encode.mono _ _
      | exact stilelaw03_Row.mono _ _
      | exact stilelaw04_alive.mono _
      | exact LeO.none _
      | refine LeO.ite ?_ ?_
      | refine LeO.bind ?_ (fun _ => ?_)
theorem stilelaw04_RowSizes.mono : ∀ a0 k, LeO (stilelaw04_RowSizes.f k a0) (stilelaw04_RowSizes.f (k + 1) a0) := by
  intro a0 k
  obtain ⟨ih0, ih1⟩ := stilelaw04_RowSizes.mono_l k
  unfold stilelaw04_RowSizes.f
  repeat' first
      | (with_reducible exact ih0 _ _ _ _ _ _)
      | (with_reducible exact ih1 _ _ _ _ _ _)
      | (with_reducible exact rowcode_Encode.mono _ _)
      | (with_reducible exact stilelaw03_Row.mono _ _)
      | (with_reducible exact stilelaw04_alive.mono _)
      | (with_reducible exact LeO.refl _)
      | (with_reducible exact LeO.none _)
      | (with_reducible refine LeO.ite ?_ ?_)
      | (with_reducible refine LeO.bind ?_ (fun _ => ?_))
      | exact ih0 _ _ _ _ _ _
      | exact ih1 _ _ _ _ _ _
      | exact rowcode_Encode.mono _ _
      | exact stilelaw03_Row.mono _ _
      | exact stilelaw04_alive.mono _
      | exact LeO.none _
      | refine LeO.ite ?_ ?_
      | refine LeO.bind ?_ (fun _ => ?_)
set_option maxHeartbeats 8000000 in
set_option maxRecDepth 100000 in
theorem stilelaw04_RowSizes.calls (k : Nat) (A0 : Option Addr) (c0 : Nat) (l0 : List (S44)) (r : Bool) (w : World) (hr0 : Kd.C k44 w A0 l0.length l0) (hc0 : l0.length ≤ c0) (h : stilelaw04_RowSizes.f k l0 = some r) :
    Calls Try.prog 6 #[.slice A0 l0.length c0] w fun e w' => e = .returned (.bool r) ∧ Below w.heap.size w w' := by
  have HR0 := Aside0.mk hr0
  have HC0 := Aside0.mk hc0
  clear hr0 hc0
  have HB := Aside0.mk (Below.refl w.heap.size w)
  have H : ((stilelaw03_Row.f k l0).bind fun t176 => ((rowcode_Encode.f k t176).bind fun bt179 => (stilelaw04_RowSizes.l0 k t176 bt179.1 bt179.2 1 (decide ((t176.length : Int) > 12)) 0))) = some r := h
  clear h
  replace H := Option.bind_eq_some_iff.mp H
  obtain ⟨t176, A20, H⟩ := H
  replace H : ((rowcode_Encode.f k t176).bind fun bt179 => (stilelaw04_RowSizes.l0 k t176 bt179.1 bt179.2 1 (decide ((t176.length : Int) > 12)) 0)) = some r := H
  have A2 := Aside0.mk A20
  clear A20
  replace H := Option.bind_eq_some_iff.mp H
  obtain ⟨⟨t179, t180⟩, A30, H⟩ := H
  replace H : (stilelaw04_RowSizes.l0 k t176 t179 t180 1 (decide ((t176.length : Int) > 12)) 0) = some r := H
  have A3 := Aside0.mk A30
  clear A30
  have H' := Aside0.mk H
  clear H
  go_enter Try.func6, Try.ntmps6
  go_wp2_with (first | ((with_reducible refine gate_callee (f := 8) rfl ?_); refine goesL_ (some 10) rfl rfl Try.func8 (by kernel_rfl) rfl #[.slice A0 l0.length c0] rfl (by (try simp only [List.map_toArray, List.map_cons, List.map_nil]); first | done | rfl | (simp only [List.length_drop, List.length_take]; rfl)) ?_; (with_reducible refine (stilelaw03_Row.calls k _ _ l0 t176 _ ?side1 ?side2 A2.out).mono ?_); (case side1 => repeat (first | exact HR0.out | (with_reducible refine Kd.C_alloc ?_ _) | (with_reducible refine Kd.C_drewN ?_ _) | (with_reducible refine Kd.C_drew ?_))); (case side2 => exact HC0.out); rintro e w4 ⟨v177, rfl, ho0, hb⟩; refine ⟨_, rfl, ?_⟩; have n0_ := Aside0.mk (Kd.R_lower ho0 (below_size (by repeat (first | (with_reducible first | exact HB.out | apply below_alloc | apply pw_below_drewN | apply below_drew1) | exact HB.out)))); have n1_ := Aside0.mk (below_step (by repeat (first | (with_reducible first | exact HB.out | apply below_alloc | apply pw_below_drewN | apply below_drew1) | exact HB.out)) hb); clear HB; have HO178 := n0_; have HB := n1_; clear n0_ n1_; (try clear hb); (try clear hb2); (try clear hk); (try clear hi); (try clear ho0); obtain ⟨Ao5, co5, eo5⟩ := Kd.R_slice HO178.out; subst eo5) | ((with_reducible refine gate_callee (f := 9) rfl ?_); refine goesL_ (some 13) rfl rfl Try.func9 (by kernel_rfl) rfl #[.slice Ao5 t176.length co5] rfl (by (try simp only [List.map_toArray, List.map_cons, List.map_nil]); first | done | rfl | (simp only [List.length_drop, List.length_take]; rfl)) ?_; (with_reducible refine (rowcode_Encode.calls k _ _ t176 t179 t180 _ ?side1 ?side2 A3.out).mono ?_); (case side1 => repeat (first | exact (Kd.R_reads' HO178.out).2.2 | (with_reducible refine Kd.C_alloc ?_ _) | (with_reducible refine Kd.C_drewN ?_ _) | (with_reducible refine Kd.C_drew ?_))); (case side2 => exact (Kd.R_reads' HO178.out).2.1); rintro e w6 ⟨v181, rfl, ho0, hb⟩; refine ⟨_, rfl, ?_⟩; have n0_ := Aside0.mk (Kd.R_below (by (with_reducible repeat (first | apply Kd.R_alloc | apply Kd.R_drewN | apply Kd.R_drew)); exact HO178.out) hb); have n1_ := Aside0.mk (Kd.R_lower ho0 (below_size (by repeat (first | (with_reducible first | exact HB.out | apply below_alloc | apply pw_below_drewN | apply below_drew1) | exact HB.out)))); have n2_ := Aside0.mk (below_step (by repeat (first | (with_reducible first | exact HB.out | apply below_alloc | apply pw_below_drewN | apply below_drew1) | exact HB.out)) hb); clear HO178; clear HB; have HO178 := n0_; have HO182 := n1_; have HB := n2_; clear n0_ n1_ n2_; (try clear hb); (try clear hb2); (try clear hk); (try clear hi); (try clear ho0)))
  go_loopg [6, 7, 8] k (fun kq v6 v7 v8 w' => ∃ (x6_1 : Int) (x7_1 : Bool) (x8_1 : Int), v6 = .int .i64 x6_1 ∧ v7 = .bool x7_1 ∧ v8 = .int .i64 x8_1 ∧ Aside0 (stilelaw04_RowSizes.l0 kq t176 t179 t180 x6_1 x7_1 x8_1 = some r) ∧ Aside0 (kq ≤ k) ∧ Aside0 (Kd.R k40 40 w' w.heap.size (fun _ => True) (.slice Ao5 t176.length co5) t176) ∧ Aside0 (Kd.R (Kd.int .u8) 5 w' w.heap.size (fun _ => True) v181 t179) ∧ Aside0 (Below w.heap.size w w'))
  case atStart => exact ⟨(1), (decide ((t176.length : Int) > 12)), (0), (by first | rfl | (simp; done) | (simp [*]; done)), (by first | rfl | (simp; done) | (simp [*]; done)), (by first | rfl | (simp; done) | (simp [*]; done)), H', ⟨Nat.le_refl _⟩, ⟨by (with_reducible repeat (first | apply Kd.R_alloc | apply Kd.R_drewN | apply Kd.R_drew)); exact HO178.out⟩, ⟨by (with_reducible repeat (first | apply Kd.R_alloc | apply Kd.R_drewN | apply Kd.R_drew)); exact HO182.out⟩, ⟨by repeat (first | (with_reducible first | exact HB.out | apply below_alloc | apply pw_below_drewN | apply below_drew1) | exact HB.out)⟩⟩
  case round =>
    clear H'
    try clear p2
    try clear c6
    obtain ⟨x6_1, x7_1, x8_1, rfl, rfl, rfl, HA, HK1, HO_3, HO_4, HB⟩ := hrel
    cases gk with
    | zero => exact absurd HA.out (by simp [stilelaw04_RowSizes.l0])
    | succ k1 =>
      have H := HA.out
      clear HA
      simp only [stilelaw04_RowSizes.l0] at H
      by_cases c7 : x8_1 < (t176.length : Int)
      · rw [if_pos c7] at H
        have c7b0 : decide (x8_1 < (t176.length : Int)) = true := decide_eq_true c7
        clear c7
        by_cases c8 : 0 ≤ x8_1
        · rw [if_pos c8] at H
          have c8b0 : decide (0 ≤ x8_1) = true := decide_eq_true c8
          clear c8
          have HC9 := Aside0.mk H
          clear H
          have p183 : 0 ≤ (x8_1 : Int) := of_decide_eq_true (by first | (with_reducible assumption) | assumption)
          have q183 : x8_1 < (t176.length : Int) := of_decide_eq_true (by first | (with_reducible assumption) | assumption)
          obtain ⟨ad183, e183, hx183_0, hx183_1, hx183_2, hx183_3⟩ := at_T40 (Kd.R_reads' HO_3.out).2.2 x8_1 p183 q183
          cases e183
          replace p183 := eq_true p183
          replace q183 := eq_true q183
          go_upto_if 32 with (fail)
          go_cut [6] (fun v6 wc => ∃ (kq : Nat) (x6_8 : Int), v6 = .int .i64 x6_8 ∧ Aside0 (stilelaw04_RowSizes.j1 kq t176 t179 t180 x6_8 x7_1 x8_1 = some r) ∧ Aside0 (kq ≤ k1) ∧ Aside0 (Kd.R k40 40 wc w.heap.size (fun _ => True) (.slice (some ad183) t176.length co5) t176) ∧ Aside0 (Kd.R (Kd.int .u8) 5 wc w.heap.size (fun _ => True) v181 t179) ∧ Aside0 (Below w.heap.size w wc))
          case first =>
            have H := HC9.out
            clear HC9
            by_cases c10 : ((rd_T40 t176 x8_1).f0) = 1
            · rw [if_pos c10] at H
              have c10b0 : (((rd_T40 t176 x8_1).f0) == 1) = true := beq_iff_eq.mpr c10
              have c10b1 : (((rd_T40 t176 x8_1).f0) != 1) = false := bne_eq_false_iff_eq.mpr c10
              clear c10
              (first | rw [c10b0] | (simp only [i64_w, i32_w]; rw [c10b0]) | skip)
              have H' := Aside0.mk H
              clear H
              go_wp2
              go_meet
              case rel => exact ⟨_, (wrap64 ((wrap64 (x6_1 + 1)) + 8)), (by first | rfl | (simp; done) | (simp [*]; done)), H', ⟨by have := HK1.out; first | omega | exact Nat.le_refl _⟩, ⟨by (with_reducible repeat (first | apply Kd.R_alloc | apply Kd.R_drewN | apply Kd.R_drew)); exact HO_3.out⟩, ⟨by (with_reducible repeat (first | apply Kd.R_alloc | apply Kd.R_drewN | apply Kd.R_drew)); exact HO_4.out⟩, ⟨by repeat (first | (with_reducible first | exact HB.out | apply below_alloc | apply pw_below_drewN | apply below_drew1) | exact HB.out)⟩⟩
            · rw [if_neg c10] at H
              have c10b0 : (((rd_T40 t176 x8_1).f0) == 1) = false := beq_eq_false_iff_ne.mpr c10
              have c10b1 : (((rd_T40 t176 x8_1).f0) != 1) = true := bne_iff_ne.mpr c10
              (first | rw [c10b0] | (simp only [i64_w, i32_w]; rw [c10b0]) | skip)
              have H' := Aside0.mk H
              clear H
              go_wp2
              go_meet
              case rel => exact ⟨_, (wrap64 (x6_1 + 1)), (by first | rfl | (simp; done) | (simp [*]; done)), H', ⟨by have := HK1.out; first | omega | exact Nat.le_refl _⟩, ⟨by (with_reducible repeat (first | apply Kd.R_alloc | apply Kd.R_drewN | apply Kd.R_drew)); exact HO_3.out⟩, ⟨by (with_reducible repeat (first | apply Kd.R_alloc | apply Kd.R_drewN | apply Kd.R_drew)); exact HO_4.out⟩, ⟨by repeat (first | (with_reducible first | exact HB.out | apply below_alloc | apply pw_below_drewN | apply below_drew1) | exact HB.out)⟩⟩
          case rest =>
            clear HC9
            try clear c1
            try clear p1
            try clear q1
            try clear hx1
            try clear p2
            try clear c6
            try clear p6
            try clear c7
            try clear c7b0
            try clear c8
            try clear c8b0
            try clear c9
            try clear c10
            try clear c10b0
            try clear c10b1
            try clear hx183_0
            try clear hx183_1
            try clear hx183_2
            try clear hx183_3
            try clear p183
            try clear p2
            try clear q183
            obtain ⟨kq, x6_8, rfl, HA, HJ8, HO_3, HO_4, HB⟩ := hcut
            cases kq with
            | zero => exact absurd HA.out (by simp [stilelaw04_RowSizes.j1])
            | succ kj8 =>
              have H := HA.out
              clear HA
              simp only [stilelaw04_RowSizes.j1] at H
              by_cases c11 : 0 ≤ x8_1
              · rw [if_pos c11] at H
                have c11b0 : decide (0 ≤ x8_1) = true := decide_eq_true c11
                clear c11
                by_cases c12 : x8_1 < (t176.length : Int)
                · rw [if_pos c12] at H
                  have c12b0 : decide (x8_1 < (t176.length : Int)) = true := decide_eq_true c12
                  clear c12
                  by_cases c13 : ((rd_T40 t176 x8_1).f0) = 2
                  · rw [if_pos c13] at H
                    have c13b0 : (((rd_T40 t176 x8_1).f0) == 2) = true := beq_iff_eq.mpr c13
                    have c13b1 : (((rd_T40 t176 x8_1).f0) != 2) = false := bne_eq_false_iff_eq.mpr c13
                    clear c13
                    by_cases c14 : x7_1 = true
                    · subst c14
                      have H1 : (stilelaw04_RowSizes.l0 kj8 t176 t179 t180 (wrap64 ((wrap64 (x6_8 + 2)) + (((rd_T40 t176 x8_1).f2).size : Int))) true (wrap64 (x8_1 + 1))) = some r := by rw [if_pos rfl] at H; exact H
                      clear H
                      have H := H1
                      clear H1
                      have H' := Aside0.mk H
                      clear H
                      have p184 : 0 ≤ (x8_1 : Int) := of_decide_eq_true (by first | (with_reducible assumption) | assumption)
                      have q184 : x8_1 < (t176.length : Int) := of_decide_eq_true (by first | (with_reducible assumption) | assumption)
                      obtain ⟨ad184, e184, hx184_0, hx184_1, hx184_2, hx184_3⟩ := at_T40 (Kd.R_reads' HO_3.out).2.2 x8_1 p184 q184
                      obtain rfl : ad183 = ad184 := (by injection e184)
                      replace p184 := eq_true p184
                      replace q184 := eq_true q184
                      have p185 : 0 ≤ (x8_1 : Int) := of_decide_eq_true (by first | (with_reducible assumption) | assumption)
                      have q185 : x8_1 < (t176.length : Int) := of_decide_eq_true (by first | (with_reducible assumption) | assumption)
                      obtain ⟨ad185, e185, hx185_0, hx185_1, hx185_2, hx185_3⟩ := at_T40 (Kd.R_reads' HO_3.out).2.2 x8_1 p185 q185
                      obtain rfl : ad183 = ad185 := (by injection e185)
                      replace p185 := eq_true p185
                      replace q185 := eq_true q185
                      go_wp2
                      go_roundg kj8
                      case measure => have := HK1.out; have := HJ8.out; omega
                      case rel => exact ⟨(wrap64 ((wrap64 (x6_8 + 2)) + (((rd_T40 t176 x8_1).f2).size : Int))), (true), (wrap64 (x8_1 + 1)), (by first | rfl | (simp; done) | (simp [*]; done)), (by first | rfl | (simp; done) | (simp [*]; done)), (by first | rfl | (simp; done) | (simp [*]; done)), H', ⟨by have := HK1.out; have := HJ8.out; omega⟩, ⟨by (with_reducible repeat (first | apply Kd.R_alloc | apply Kd.R_drewN | apply Kd.R_drew)); exact HO_3.out⟩, ⟨by (with_reducible repeat (first | apply Kd.R_alloc | apply Kd.R_drewN | apply Kd.R_drew)); exact HO_4.out⟩, ⟨by repeat (first | (with_reducible first | exact HB.out | apply below_alloc | apply pw_below_drewN | apply below_drew1) | exact HB.out)⟩⟩
                    · replace c14 := Bool.eq_false_iff.mpr c14
                      subst c14
                      have H1 : (stilelaw04_RowSizes.l0 kj8 t176 t179 t180 (wrap64 ((wrap64 (x6_8 + 2)) + (((rd_T40 t176 x8_1).f2).size : Int))) (decide ((((rd_T40 t176 x8_1).f2).size : Int) > 400)) (wrap64 (x8_1 + 1))) = some r := by rw [if_neg (show ¬ (false = true) by decide)] at H; exact H
                      clear H
                      have H := H1
                      clear H1
                      have H' := Aside0.mk H
                      clear H
                      have p184 : 0 ≤ (x8_1 : Int) := of_decide_eq_true (by first | (with_reducible assumption) | assumption)
                      have q184 : x8_1 < (t176.length : Int) := of_decide_eq_true (by first | (with_reducible assumption) | assumption)
                      obtain ⟨ad184, e184, hx184_0, hx184_1, hx184_2, hx184_3⟩ := at_T40 (Kd.R_reads' HO_3.out).2.2 x8_1 p184 q184
                      obtain rfl : ad183 = ad184 := (by injection e184)
                      replace p184 := eq_true p184
                      replace q184 := eq_true q184
                      have p185 : 0 ≤ (x8_1 : Int) := of_decide_eq_true (by first | (with_reducible assumption) | assumption)
                      have q185 : x8_1 < (t176.length : Int) := of_decide_eq_true (by first | (with_reducible assumption) | assumption)
                      obtain ⟨ad185, e185, hx185_0, hx185_1, hx185_2, hx185_3⟩ := at_T40 (Kd.R_reads' HO_3.out).2.2 x8_1 p185 q185
                      obtain rfl : ad183 = ad185 := (by injection e185)
                      replace p185 := eq_true p185
                      replace q185 := eq_true q185
                      have p186 : 0 ≤ (x8_1 : Int) := of_decide_eq_true (by first | (with_reducible assumption) | assumption)
                      have q186 : x8_1 < (t176.length : Int) := of_decide_eq_true (by first | (with_reducible assumption) | assumption)
                      obtain ⟨ad186, e186, hx186_0, hx186_1, hx186_2, hx186_3⟩ := at_T40 (Kd.R_reads' HO_3.out).2.2 x8_1 p186 q186
                      obtain rfl : ad183 = ad186 := (by injection e186)
                      replace p186 := eq_true p186
                      replace q186 := eq_true q186
                      go_wp2
                      go_roundg kj8
                      case measure => have := HK1.out; have := HJ8.out; omega
                      case rel => exact ⟨(wrap64 ((wrap64 (x6_8 + 2)) + (((rd_T40 t176 x8_1).f2).size : Int))), (decide ((((rd_T40 t176 x8_1).f2).size : Int) > 400)), (wrap64 (x8_1 + 1)), (by first | rfl | (simp; done) | (simp [*]; done)), (by first | rfl | (simp; done) | (simp [*]; done)), (by first | rfl | (simp; done) | (simp [*]; done)), H', ⟨by have := HK1.out; have := HJ8.out; omega⟩, ⟨by (with_reducible repeat (first | apply Kd.R_alloc | apply Kd.R_drewN | apply Kd.R_drew)); exact HO_3.out⟩, ⟨by (with_reducible repeat (first | apply Kd.R_alloc | apply Kd.R_drewN | apply Kd.R_drew)); exact HO_4.out⟩, ⟨by repeat (first | (with_reducible first | exact HB.out | apply below_alloc | apply pw_below_drewN | apply below_drew1) | exact HB.out)⟩⟩
                  · rw [if_neg c13] at H
                    have c13b0 : (((rd_T40 t176 x8_1).f0) == 2) = false := beq_eq_false_iff_ne.mpr c13
                    have c13b1 : (((rd_T40 t176 x8_1).f0) != 2) = true := bne_iff_ne.mpr c13
                    have H' := Aside0.mk H
                    clear H
                    have p184 : 0 ≤ (x8_1 : Int) := of_decide_eq_true (by first | (with_reducible assumption) | assumption)
                    have q184 : x8_1 < (t176.length : Int) := of_decide_eq_true (by first | (with_reducible assumption) | assumption)
                    obtain ⟨ad184, e184, hx184_0, hx184_1, hx184_2, hx184_3⟩ := at_T40 (Kd.R_reads' HO_3.out).2.2 x8_1 p184 q184
                    obtain rfl : ad183 = ad184 := (by injection e184)
                    replace p184 := eq_true p184
                    replace q184 := eq_true q184
                    go_wp2
                    go_roundg kj8
                    case measure => have := HK1.out; have := HJ8.out; omega
                    case rel => exact ⟨(x6_8), (x7_1), (wrap64 (x8_1 + 1)), (by first | rfl | (simp; done) | (simp [*]; done)), (by first | rfl | (simp; done) | (simp [*]; done)), (by first | rfl | (simp; done) | (simp [*]; done)), H', ⟨by have := HK1.out; have := HJ8.out; omega⟩, ⟨by (with_reducible repeat (first | apply Kd.R_alloc | apply Kd.R_drewN | apply Kd.R_drew)); exact HO_3.out⟩, ⟨by (with_reducible repeat (first | apply Kd.R_alloc | apply Kd.R_drewN | apply Kd.R_drew)); exact HO_4.out⟩, ⟨by repeat (first | (with_reducible first | exact HB.out | apply below_alloc | apply pw_below_drewN | apply below_drew1) | exact HB.out)⟩⟩
                · rw [if_neg c12] at H
                  exact absurd H (by simp)
              · rw [if_neg c11] at H
                exact absurd H (by simp)
        · rw [if_neg c8] at H
          exact absurd H (by simp)
      · rw [if_neg c7] at H
        have c7b0 : decide (x8_1 < (t176.length : Int)) = false := decide_eq_false c7
        clear c7
        by_cases c15 : x7_1 = true
        · subst c15
          have H1 : ((stilelaw04_alive.f k1).bind fun t187 => (if t187 = true then (if t180 = 42 then (some ((t179.length : Int) == 0)) else (some false)) else (some false))) = some r := by rw [if_pos rfl] at H; exact H
          clear H
          have H := H1
          clear H1
          replace H := Option.bind_eq_some_iff.mp H
          obtain ⟨t187, A160, H⟩ := H
          replace H : (if t187 = true then (if t180 = 42 then (some ((t179.length : Int) == 0)) else (some false)) else (some false)) = some r := H
          have A16 := Aside0.mk A160
          clear A160
          by_cases c17 : t187 = true
          · subst c17
            have H1 : (if t180 = 42 then (some ((t179.length : Int) == 0)) else (some false)) = some r := by rw [if_pos rfl] at H; exact H
            clear H
            have H := H1
            clear H1
            by_cases c18 : t180 = 42
            · rw [if_pos c18] at H
              have c18b0 : (t180 == 42) = true := beq_iff_eq.mpr c18
              have c18b1 : (t180 != 42) = false := bne_eq_false_iff_eq.mpr c18
              clear c18
              obtain rfl := Option.some.inj H
              go_wp2_with (first | ((with_reducible refine gate_callee (f := 15) rfl ?_); refine goesL_ (some 61) rfl rfl Try.func15 (by kernel_rfl) rfl #[] rfl (by (try simp only [List.map_toArray, List.map_cons, List.map_nil]); first | done | rfl | (simp only [List.length_drop, List.length_take]; rfl)) ?_; (with_reducible refine (stilelaw04_alive.calls k1  true _ A16.out).mono ?_); rintro e w19 ⟨rfl, hb⟩; refine ⟨_, rfl, ?_⟩; have n0_ := Aside0.mk (Kd.R_below (by (with_reducible repeat (first | apply Kd.R_alloc | apply Kd.R_drewN | apply Kd.R_drew)); exact HO_3.out) hb); have n1_ := Aside0.mk (Kd.R_below (by (with_reducible repeat (first | apply Kd.R_alloc | apply Kd.R_drewN | apply Kd.R_drew)); exact HO_4.out) hb); have n2_ := Aside0.mk (below_step (by repeat (first | (with_reducible first | exact HB.out | apply below_alloc | apply pw_below_drewN | apply below_drew1) | exact HB.out)) hb); clear HO_3; clear HO_4; clear HB; have HO_3 := n0_; have HO_4 := n1_; have HB := n2_; clear n0_ n1_ n2_; (try clear hb); (try clear hb2); (try clear hk); (try clear hi); obtain ⟨Ao20, co20, eo20⟩ := Kd.R_slice HO_4.out; subst eo20))
              go_ret
              exact ⟨by first | rfl | (simp [errW_none, errW_some] <;> rfl) | (simp [*, errW_none, errW_some] <;> rfl), by repeat (first | (with_reducible first | exact HB.out | apply below_alloc | apply pw_below_drewN | apply below_drew1) | exact HB.out)⟩
            · rw [if_neg c18] at H
              have c18b0 : (t180 == 42) = false := beq_eq_false_iff_ne.mpr c18
              have c18b1 : (t180 != 42) = true := bne_iff_ne.mpr c18
              obtain rfl := Option.some.inj H
              go_wp2_with (first | ((with_reducible refine gate_callee (f := 15) rfl ?_); refine goesL_ (some 61) rfl rfl Try.func15 (by kernel_rfl) rfl #[] rfl (by (try simp only [List.map_toArray, List.map_cons, List.map_nil]); first | done | rfl | (simp only [List.length_drop, List.length_take]; rfl)) ?_; (with_reducible refine (stilelaw04_alive.calls k1  true _ A16.out).mono ?_); rintro e w21 ⟨rfl, hb⟩; refine ⟨_, rfl, ?_⟩; have n0_ := Aside0.mk (Kd.R_below (by (with_reducible repeat (first | apply Kd.R_alloc | apply Kd.R_drewN | apply Kd.R_drew)); exact HO_3.out) hb); have n1_ := Aside0.mk (Kd.R_below (by (with_reducible repeat (first | apply Kd.R_alloc | apply Kd.R_drewN | apply Kd.R_drew)); exact HO_4.out) hb); have n2_ := Aside0.mk (below_step (by repeat (first | (with_reducible first | exact HB.out | apply below_alloc | apply pw_below_drewN | apply below_drew1) | exact HB.out)) hb); clear HO_3; clear HO_4; clear HB; have HO_3 := n0_; have HO_4 := n1_; have HB := n2_; clear n0_ n1_ n2_; (try clear hb); (try clear hb2); (try clear hk); (try clear hi)))
              go_ret
              exact ⟨by first | rfl | (simp [errW_none, errW_some] <;> rfl) | (simp [*, errW_none, errW_some] <;> rfl), by repeat (first | (with_reducible first | exact HB.out | apply below_alloc | apply pw_below_drewN | apply below_drew1) | exact HB.out)⟩
          · replace c17 := Bool.eq_false_iff.mpr c17
            subst c17
            have H1 : (some false) = some r := by rw [if_neg (show ¬ (false = true) by decide)] at H; exact H
            clear H
            have H := H1
            clear H1
            obtain rfl := Option.some.inj H
            go_wp2_with (first | ((with_reducible refine gate_callee (f := 15) rfl ?_); refine goesL_ (some 61) rfl rfl Try.func15 (by kernel_rfl) rfl #[] rfl (by (try simp only [List.map_toArray, List.map_cons, List.map_nil]); first | done | rfl | (simp only [List.length_drop, List.length_take]; rfl)) ?_; (with_reducible refine (stilelaw04_alive.calls k1  false _ A16.out).mono ?_); rintro e w22 ⟨rfl, hb⟩; refine ⟨_, rfl, ?_⟩; have n0_ := Aside0.mk (Kd.R_below (by (with_reducible repeat (first | apply Kd.R_alloc | apply Kd.R_drewN | apply Kd.R_drew)); exact HO_3.out) hb); have n1_ := Aside0.mk (Kd.R_below (by (with_reducible repeat (first | apply Kd.R_alloc | apply Kd.R_drewN | apply Kd.R_drew)); exact HO_4.out) hb); have n2_ := Aside0.mk (below_step (by repeat (first | (with_reducible first | exact HB.out | apply below_alloc | apply pw_below_drewN | apply below_drew1) | exact HB.out)) hb); clear HO_3; clear HO_4; clear HB; have HO_3 := n0_; have HO_4 := n1_; have HB := n2_; clear n0_ n1_ n2_; (try clear hb); (try clear hb2); (try clear hk); (try clear hi)))
            go_ret
            exact ⟨by first | rfl | (simp [errW_none, errW_some] <;> rfl) | (simp [*, errW_none, errW_some] <;> rfl), by repeat (first | (with_reducible first | exact HB.out | apply below_alloc | apply pw_below_drewN | apply below_drew1) | exact HB.out)⟩
        · replace c15 := Bool.eq_false_iff.mpr c15
          subst c15
          have H1 : ((stilelaw04_alive.f k1).bind fun t188 => (if t188 = true then (if t180 = 0 then (some ((t179.length : Int) == x6_1)) else (some false)) else (some false))) = some r := by rw [if_neg (show ¬ (false = true) by decide)] at H; exact H
          clear H
          have H := H1
          clear H1
          replace H := Option.bind_eq_some_iff.mp H
          obtain ⟨t188, A230, H⟩ := H
          replace H : (if t188 = true then (if t180 = 0 then (some ((t179.length : Int) == x6_1)) else (some false)) else (some false)) = some r := H
          have A23 := Aside0.mk A230
          clear A230
          by_cases c24 : t188 = true
          · subst c24
            have H1 : (if t180 = 0 then (some ((t179.length : Int) == x6_1)) else (some false)) = some r := by rw [if_pos rfl] at H; exact H
            clear H
            have H := H1
            clear H1
            by_cases c25 : t180 = 0
            · rw [if_pos c25] at H
              have c25b0 : (t180 == 0) = true := beq_iff_eq.mpr c25
              have c25b1 : (t180 != 0) = false := bne_eq_false_iff_eq.mpr c25
              clear c25
              obtain rfl := Option.some.inj H
              go_wp2_with (first | ((with_reducible refine gate_callee (f := 15) rfl ?_); refine goesL_ (some 71) rfl rfl Try.func15 (by kernel_rfl) rfl #[] rfl (by (try simp only [List.map_toArray, List.map_cons, List.map_nil]); first | done | rfl | (simp only [List.length_drop, List.length_take]; rfl)) ?_; (with_reducible refine (stilelaw04_alive.calls k1  true _ A23.out).mono ?_); rintro e w26 ⟨rfl, hb⟩; refine ⟨_, rfl, ?_⟩; have n0_ := Aside0.mk (Kd.R_below (by (with_reducible repeat (first | apply Kd.R_alloc | apply Kd.R_drewN | apply Kd.R_drew)); exact HO_3.out) hb); have n1_ := Aside0.mk (Kd.R_below (by (with_reducible repeat (first | apply Kd.R_alloc | apply Kd.R_drewN | apply Kd.R_drew)); exact HO_4.out) hb); have n2_ := Aside0.mk (below_step (by repeat (first | (with_reducible first | exact HB.out | apply below_alloc | apply pw_below_drewN | apply below_drew1) | exact HB.out)) hb); clear HO_3; clear HO_4; clear HB; have HO_3 := n0_; have HO_4 := n1_; have HB := n2_; clear n0_ n1_ n2_; (try clear hb); (try clear hb2); (try clear hk); (try clear hi); obtain ⟨Ao27, co27, eo27⟩ := Kd.R_slice HO_4.out; subst eo27))
              go_ret
              exact ⟨by first | rfl | (simp [errW_none, errW_some] <;> rfl) | (simp [*, errW_none, errW_some] <;> rfl), by repeat (first | (with_reducible first | exact HB.out | apply below_alloc | apply pw_below_drewN | apply below_drew1) | exact HB.out)⟩
            · rw [if_neg c25] at H
              have c25b0 : (t180 == 0) = false := beq_eq_false_iff_ne.mpr c25
              have c25b1 : (t180 != 0) = true := bne_iff_ne.mpr c25
              obtain rfl := Option.some.inj H
              go_wp2_with (first | ((with_reducible refine gate_callee (f := 15) rfl ?_); refine goesL_ (some 71) rfl rfl Try.func15 (by kernel_rfl) rfl #[] rfl (by (try simp only [List.map_toArray, List.map_cons, List.map_nil]); first | done | rfl | (simp only [List.length_drop, List.length_take]; rfl)) ?_; (with_reducible refine (stilelaw04_alive.calls k1  true _ A23.out).mono ?_); rintro e w28 ⟨rfl, hb⟩; refine ⟨_, rfl, ?_⟩; have n0_ := Aside0.mk (Kd.R_below (by (with_reducible repeat (first | apply Kd.R_alloc | apply Kd.R_drewN | apply Kd.R_drew)); exact HO_3.out) hb); have n1_ := Aside0.mk (Kd.R_below (by (with_reducible repeat (first | apply Kd.R_alloc | apply Kd.R_drewN | apply Kd.R_drew)); exact HO_4.out) hb); have n2_ := Aside0.mk (below_step (by repeat (first | (with_reducible first | exact HB.out | apply below_alloc | apply pw_below_drewN | apply below_drew1) | exact HB.out)) hb); clear HO_3; clear HO_4; clear HB; have HO_3 := n0_; have HO_4 := n1_; have HB := n2_; clear n0_ n1_ n2_; (try clear hb); (try clear hb2); (try clear hk); (try clear hi)))
              go_ret
              exact ⟨by first | rfl | (simp [errW_none, errW_some] <;> rfl) | (simp [*, errW_none, errW_some] <;> rfl), by repeat (first | (with_reducible first | exact HB.out | apply below_alloc | apply pw_below_drewN | apply below_drew1) | exact HB.out)⟩
          · replace c24 := Bool.eq_false_iff.mpr c24
            subst c24
            have H1 : (some false) = some r := by rw [if_neg (show ¬ (false = true) by decide)] at H; exact H
            clear H
            have H := H1
            clear H1
            obtain rfl := Option.some.inj H
            go_wp2_with (first | ((with_reducible refine gate_callee (f := 15) rfl ?_); refine goesL_ (some 71) rfl rfl Try.func15 (by kernel_rfl) rfl #[] rfl (by (try simp only [List.map_toArray, List.map_cons, List.map_nil]); first | done | rfl | (simp only [List.length_drop, List.length_take]; rfl)) ?_; (with_reducible refine (stilelaw04_alive.calls k1  false _ A23.out).mono ?_); rintro e w29 ⟨rfl, hb⟩; refine ⟨_, rfl, ?_⟩; have n0_ := Aside0.mk (Kd.R_below (by (with_reducible repeat (first | apply Kd.R_alloc | apply Kd.R_drewN | apply Kd.R_drew)); exact HO_3.out) hb); have n1_ := Aside0.mk (Kd.R_below (by (with_reducible repeat (first | apply Kd.R_alloc | apply Kd.R_drewN | apply Kd.R_drew)); exact HO_4.out) hb); have n2_ := Aside0.mk (below_step (by repeat (first | (with_reducible first | exact HB.out | apply below_alloc | apply pw_below_drewN | apply below_drew1) | exact HB.out)) hb); clear HO_3; clear HO_4; clear HB; have HO_3 := n0_; have HO_4 := n1_; have HB := n2_; clear n0_ n1_ n2_; (try clear hb); (try clear hb2); (try clear hk); (try clear hi)))
            go_ret
            exact ⟨by first | rfl | (simp [errW_none, errW_some] <;> rfl) | (simp [*, errW_none, errW_some] <;> rfl), by repeat (first | (with_reducible first | exact HB.out | apply below_alloc | apply pw_below_drewN | apply below_drew1) | exact HB.out)⟩

end Go.Proofs.Ythcoiomnlcagcaa.PRZ

namespace Go.Proofs.Ythcoiomnlcagcaa
open Go.RowKit Go.Proofs.YthcoiomnlcagcaaW.PrintWords Go.Proofs.YthcoiomnlcagcaaW.PrintLast Go.Proofs.YthcoiomnlcagcaaW.PrintMore Go.Proofs.Ythcoiomnlcagcaa.PRZ
set_option linter.unusedVariables false
set_option linter.unusedSimpArgs false
namespace Rl
theorem w64 (i : Int) (h0 : -9223372036854775808 ≤ i) (h1 : i ≤ 9223372036854775807) : wrap64 i = i := by unfold wrap64; omega
def pk (c : Int) : Int := if c < 0 then Int.tmod (wrap64 (-(wrap64 (c + 1)))) 4 else Int.tmod c 4
def val (x : S44) : S40 := if pk x.f0 = 1 then ⟨1, x.f1, ⟨#[]⟩, false⟩ else if pk x.f0 = 2 then ⟨2, 0, x.f2, false⟩ else if pk x.f0 = 3 then ⟨3, 0, ⟨#[]⟩, x.f3⟩ else ⟨0, 0, ⟨#[]⟩, false⟩
theorem value_f (x : S44) : stilelaw01_Raw_Value.f x.f0 x.f1 x.f2 x.f3 = some ((val x).f0, (val x).f1, (val x).f2, (val x).f3) := by
  have hp : stilelaw01_pick.f x.f0 4 = some (pk x.f0) := by
    unfold stilelaw01_pick.f pk
    split <;> simp
  unfold stilelaw01_Raw_Value.f
  rw [hp]
  simp only [Option.bind_some, stileref01_Num.f, stileref01_Text.f]
  unfold val
  by_cases h1 : pk x.f0 = 1
  · simp [h1]
  by_cases h2 : pk x.f0 = 2
  · simp [h2]
  by_cases h3 : pk x.f0 = 3
  · simp [h3]
  simp [h1, h2, h3]
theorem rd44 (l : List S44) (i : Nat) (h : i < l.length) : rd_T44 l i = l[i] := by simp [rd_T44, h]
theorem rd40 (l : List S40) (i : Nat) (h : i < l.length) : rd_T40 l i = l[i] := by simp [rd_T40, h]
def rowOf (l : List S44) : List S40 := (l.take 40).map val
theorem row_at (l : List S44) : ∀ (m i : Nat), i + m = 40 → i ≤ l.length → ∃ k, stilelaw03_Row.l0 k l ((l.take i).map val) i = some (rowOf l) := by
  intro m
  induction m with
  | zero =>
    intro i hi hl
    obtain rfl : i = 40 := by omega
    refine ⟨2, ?_⟩
    unfold stilelaw03_Row.l0
    by_cases h : ((40 : Nat) : Int) < (l.length : Int)
    · rw [if_pos h]; rfl
    · rw [if_neg h]; rfl
  | succ m ih =>
    intro i hi hl
    by_cases h : i < l.length
    · obtain ⟨k, hk⟩ := ih (i + 1) (by omega) (by omega)
      refine ⟨k + 2, ?_⟩
      unfold stilelaw03_Row.l0
      rw [if_pos (by omega)]
      unfold stilelaw03_Row.j1
      have hd : decide ((i : Int) < 40) = true := decide_eq_true (by omega)
      have hw : wrap64 ((i : Int) + 1) = ((i + 1 : Nat) : Int) := by rw [w64 _ (by omega) (by omega)]; simp
      rw [if_pos hd, if_pos (by omega), if_pos (by omega), rd44 l i h, value_f, Option.bind_some, if_pos (by simp; omega), hw]
      rw [List.take_succ_eq_append_getElem h, List.map_append] at hk
      exact hk
    · refine ⟨2, ?_⟩
      unfold stilelaw03_Row.l0
      rw [if_neg (by omega)]
      show some _ = _
      rw [rowOf, List.take_of_length_le (by omega), List.take_of_length_le (by omega)]
theorem row_f (l : List S44) : ∃ k, stilelaw03_Row.f k l = some (rowOf l) := by
  obtain ⟨k, hk⟩ := row_at l 40 0 rfl (Nat.zero_le _)
  exact ⟨k, hk⟩
/-- what a value of a row is -/
def Ok (x : S40) : Prop := (x.f0 = 0 ∧ x.f1 = 0 ∧ x.f2 = ⟨#[]⟩ ∧ x.f3 = false) ∨ (x.f0 = 1 ∧ x.f2 = ⟨#[]⟩ ∧ x.f3 = false) ∨ (x.f0 = 2 ∧ x.f1 = 0 ∧ x.f3 = false) ∨ (x.f0 = 3 ∧ x.f1 = 0 ∧ x.f2 = ⟨#[]⟩)
theorem val_ok (x : S44) : Ok (val x) := by
  unfold val Ok
  by_cases h1 : pk x.f0 = 1
  · simp [h1]
  by_cases h2 : pk x.f0 = 2
  · simp [h2]
  by_cases h3 : pk x.f0 = 3
  · simp [h3]
  simp [h1, h2, h3]
theorem row_ok (l : List S44) : ∀ x ∈ rowOf l, Ok x := by
  intro x hx
  obtain ⟨y, _, rfl⟩ := List.mem_map.1 hx
  exact val_ok y
theorem row_len (l : List S44) : (rowOf l).length ≤ 40 := by simp [rowOf]; omega
theorem right_ok (x : S40) (h : Ok x) : value_Right.f x.f0 x.f1 x.f2 x.f3 = some true := by
  unfold value_Right.f
  obtain ⟨k, n, s, b⟩ := x
  rcases h with ⟨h1, h2, h3, h4⟩ | ⟨h1, h3, h4⟩ | ⟨h1, h2, h4⟩ | ⟨h1, h2, h3⟩
  all_goals
    dsimp only at *
    subst_vars
    simp [Rw.rightF]
    try rfl
end Rl
end Go.Proofs.Ythcoiomnlcagcaa

namespace Go.Proofs.Ythcoiomnlcagcaa
open Go.RowKit Go.Proofs.YthcoiomnlcagcaaW.PrintWords Go.Proofs.YthcoiomnlcagcaaW.PrintLast Go.Proofs.YthcoiomnlcagcaaW.PrintMore Go.Proofs.Ythcoiomnlcagcaa.PRZ
set_option linter.unusedVariables false
set_option linter.unusedSimpArgs false
namespace Rl
def big (x : S40) : Bool := decide (x.f0 = 2) && decide ((x.f2.size : Int) > 400)
def bytesV (x : S40) : List Int := if x.f0 = 0 then [0] else if x.f0 = 1 then [1] ++ Rw.leL (IntKind.u64.wrap x.f1) 8 else if x.f0 = 2 then [2] ++ Rw.leL (IntKind.u64.wrap (x.f2.size : Int)) 2 ++ bytesOf x.f2 else if x.f3 = true then [4] else [3]
theorem w1 (i : Nat) (h : i < 100) : wrap64 ((i : Int) + 1) = ((i + 1 : Nat) : Int) := by rw [w64 _ (by omega) (by omega)]; simp
theorem drop_any (l : List S40) (i : Nat) (h : i < l.length) : (l.drop i).any big = (big l[i] || (l.drop (i + 1)).any big) := by
  rw [List.drop_eq_getElem_cons h, List.any_cons]
theorem enc_check (l : List S40) (hok : ∀ x ∈ l, Ok x) (hlen : l.length ≤ 40) (b' : Bool) (r : List Int × Int) (h1 : b' = false → ∃ k, rowcode_Encode.l1 k [((l.length : Int)) % 256] l (l.length : Int) 0 = some r) (h2 : b' = true → r = ([], 42)) :
    ∀ (m i : Nat) (b : Bool), i + m = l.length → (b || (l.drop i).any big) = b' → ∃ k, rowcode_Encode.l0 k l b true l (l.length : Int) (i : Int) = some r := by
  intro m
  induction m with
  | zero =>
    intro i b hi hb
    rw [List.drop_of_length_le (by omega)] at hb
    simp only [List.any_nil, Bool.or_false] at hb
    subst hb
    cases b with
    | true =>
      refine ⟨1, ?_⟩
      unfold rowcode_Encode.l0
      rw [if_neg (by omega), if_pos rfl, h2 rfl]
    | false =>
      obtain ⟨k, hk⟩ := h1 rfl
      refine ⟨k + 1, ?_⟩
      unfold rowcode_Encode.l0
      rw [if_neg (by omega), if_neg (by simp), if_pos rfl]
      exact hk
  | succ m ih =>
    intro i b hi hb
    have hil : i < l.length := by omega
    rw [drop_any l i hil] at hb
    have hr := right_ok l[i] (hok _ (List.getElem_mem hil))
    have step : ∀ c : Bool, (c || (l.drop (i + 1)).any big) = b' → ∃ k, rowcode_Encode.j1 k l c true l (l.length : Int) (i : Int) l[i].f0 l[i].f1 l[i].f2 l[i].f3 = some r := by
      intro c hc
      obtain ⟨k, hk⟩ := ih (i + 1) c (by omega) hc
      refine ⟨k + 1, ?_⟩
      unfold rowcode_Encode.j1
      rw [if_pos rfl, hr, Option.bind_some, w1 i (by omega)]
      exact hk
    cases b with
    | true =>
      obtain ⟨k, hk⟩ := step true (by simpa using hb)
      refine ⟨k + 1, ?_⟩
      unfold rowcode_Encode.l0
      rw [if_pos (by omega), if_pos (by omega), if_pos (by omega), if_pos rfl, rd40 l i hil]
      exact hk
    | false =>
      by_cases h : l[i].f0 = 2
      · obtain ⟨k, hk⟩ := step (decide ((l[i].f2.size : Int) > 400)) (by simpa [big, h] using hb)
        refine ⟨k + 1, ?_⟩
        unfold rowcode_Encode.l0
        rw [if_pos (by omega), if_pos (by omega), if_pos (by omega), if_neg (by simp), rd40 l i hil, if_pos h]
        exact hk
      · obtain ⟨k, hk⟩ := step false (by simpa [big, h] using hb)
        refine ⟨k + 1, ?_⟩
        unfold rowcode_Encode.l0
        rw [if_pos (by omega), if_pos (by omega), if_pos (by omega), if_neg (by simp), rd40 l i hil, if_neg h]
        exact hk
theorem u64_lo (a : Int) : 0 ≤ IntKind.u64.wrap a ∧ IntKind.u64.wrap a < 18446744073709551616 := by
  simp [IntKind.wrap, IntKind.bits, IntKind.signed]
  omega
theorem bytesOf_len (s : ByteArray) : (bytesOf s).length = s.size := by simp [bytesOf]
theorem leL_len (a : Int) (n : Nat) : (Rw.leL a n).length = n := by simp [Rw.leL]
theorem app_f (l : List Int) (a : Int) (n : Nat) (h1 : 1 ≤ n) (h8 : n ≤ 8) (hl : l.length ≤ 140737488351232) : octets_Append.f l (IntKind.u64.wrap a) (n : Int) = some (l ++ Rw.leL (IntKind.u64.wrap a) n) := by
  unfold octets_Append.f
  rw [if_pos ⟨⟨by omega, by omega⟩, u64_lo a, hl⟩]
  simp
theorem enc_write (l : List S40) (hok : ∀ x ∈ l, Ok x) (hlen : l.length ≤ 40) (hb : l.any big = false) :
    ∀ (m i : Nat) (acc : List Int), i + m = l.length → acc.length ≤ 1 + i * 403 → ∃ k, rowcode_Encode.l1 k acc l (l.length : Int) (i : Int) = some (acc ++ (l.drop i).flatMap bytesV, 0) := by
  intro m
  induction m with
  | zero =>
    intro i acc hi ha
    refine ⟨1, ?_⟩
    unfold rowcode_Encode.l1
    rw [if_neg (by omega), List.drop_of_length_le (by omega)]
    simp
  | succ m ih =>
    intro i acc hi ha
    have hil : i < l.length := by omega
    have hv : big l[i] = false := by
      cases hq : big l[i] with
      | false => rfl
      | true => rw [List.any_eq_true.2 ⟨_, List.getElem_mem hil, hq⟩] at hb; cases hb
    rw [List.drop_eq_getElem_cons hil, List.flatMap_cons]
    have step : ∀ bs : List Int, bs = bytesV l[i] → bs.length ≤ 403 → ∃ k, rowcode_Encode.l1 k (acc ++ bs) l (l.length : Int) (wrap64 ((i : Int) + 1)) = some (acc ++ (bytesV l[i] ++ (l.drop (i + 1)).flatMap bytesV), 0) := by
      intro bs hbs hbl
      obtain ⟨k, hk⟩ := ih (i + 1) (acc ++ bs) (by omega) (by rw [List.length_append]; omega)
      refine ⟨k, ?_⟩
      rw [w1 i (by omega), hk, hbs, List.append_assoc]
    have hal : acc.length < 140737488351232 := by omega
    rcases hok _ (List.getElem_mem hil) with ⟨e0, _⟩ | ⟨e0, _⟩ | ⟨e0, _⟩ | ⟨e0, _⟩
    · obtain ⟨k, hk⟩ := step [0] (by simp [bytesV, e0]) (by simp)
      refine ⟨k + 1, ?_⟩
      unfold rowcode_Encode.l1
      rw [if_pos (by omega), if_pos (by omega), if_pos (by omega), rd40 l i hil, if_pos e0, if_pos (by omega)]
      exact hk
    · obtain ⟨k, hk⟩ := step ([1] ++ Rw.leL (IntKind.u64.wrap l[i].f1) 8) (by simp [bytesV, e0]) (by simp [leL_len])
      refine ⟨k + 1, ?_⟩
      unfold rowcode_Encode.l1
      rw [if_pos (by omega), if_pos (by omega), if_pos (by omega), rd40 l i hil, if_neg (by omega), if_pos e0, if_pos (by omega), show (8 : Int) = ((8 : Nat) : Int) from rfl, app_f _ _ 8 (by omega) (by omega) (by simp <;> omega), Option.bind_some]
      rw [← List.append_assoc] at hk
      exact hk
    · have hs : l[i].f2.size ≤ 400 := by
        simp [big, e0] at hv
        omega
      obtain ⟨k, hk⟩ := step ([2] ++ Rw.leL (IntKind.u64.wrap (l[i].f2.size : Int)) 2 ++ bytesOf l[i].f2) (by simp [bytesV, e0]) (by simp [leL_len, bytesOf_len] <;> omega)
      refine ⟨k + 1, ?_⟩
      unfold rowcode_Encode.l1
      rw [if_pos (by omega), if_pos (by omega), if_pos (by omega), rd40 l i hil, if_neg (by omega), if_neg (by omega), if_pos e0, if_pos (by omega), show (2 : Int) = ((2 : Nat) : Int) from rfl, app_f _ _ 2 (by omega) (by omega) (by simp <;> omega), Option.bind_some, if_pos (by simp [leL_len] <;> omega)]
      rw [← List.append_assoc, ← List.append_assoc] at hk
      exact hk
    · by_cases hf : l[i].f3 = true
      · obtain ⟨k, hk⟩ := step [4] (by simp [bytesV, e0, hf]) (by simp)
        refine ⟨k + 1, ?_⟩
        unfold rowcode_Encode.l1
        have hw : wrap64 (((acc ++ [3] : List Int).length : Int) - 1) = (acc.length : Int) := by rw [w64 _ (by simp <;> omega) (by simp <;> omega)]; simp
        rw [if_pos (by omega), if_pos (by omega), if_pos (by omega), rd40 l i hil, if_neg (by omega), if_neg (by omega), if_neg (by omega), if_pos e0, if_pos (by omega), Option.bind_some, if_pos hf, hw, if_pos (by omega), if_pos (by simp <;> omega)]
        have hset : (acc ++ [3] : List Int).set ((acc.length : Int)).toNat 4 = acc ++ [4] := by simp
        rw [hset]
        exact hk
      · obtain ⟨k, hk⟩ := step [3] (by simp [bytesV, e0, hf]) (by simp)
        refine ⟨k + 1, ?_⟩
        unfold rowcode_Encode.l1
        rw [if_pos (by omega), if_pos (by omega), if_pos (by omega), rd40 l i hil, if_neg (by omega), if_neg (by omega), if_neg (by omega), if_pos e0, if_pos (by omega), Option.bind_some, if_neg hf]
        exact hk
def long (l : List S40) : Bool := decide ((l.length : Int) > 12) || l.any big
def bytesR (l : List S40) : List Int := [((l.length : Int)) % 256] ++ l.flatMap bytesV
theorem encode_f (l : List S40) (hok : ∀ x ∈ l, Ok x) (hlen : l.length ≤ 40) : ∃ k, rowcode_Encode.f k l = some (if long l then ([], 42) else (bytesR l, 0)) := by
  unfold rowcode_Encode.f
  refine enc_check l hok hlen (long l) _ (fun hl => ?_) (fun hl => by rw [hl]; rfl) l.length 0 _ (by omega) (by simp [long])
  have hb : l.any big = false := by
    simp only [long, Bool.or_eq_false_iff] at hl
    exact hl.2
  obtain ⟨k, hk⟩ := enc_write l hok hlen hb l.length 0 [((l.length : Int)) % 256] (by omega) (by simp)
  refine ⟨k, ?_⟩
  rw [hl]
  exact hk
theorem alive_ok : stilelaw04_alive.f 40 = some true := by decide +kernel
end Rl
end Go.Proofs.Ythcoiomnlcagcaa

namespace Go.Proofs.Ythcoiomnlcagcaa
open Go.RowKit Go.Proofs.YthcoiomnlcagcaaW.PrintWords Go.Proofs.YthcoiomnlcagcaaW.PrintLast Go.Proofs.YthcoiomnlcagcaaW.PrintMore Go.Proofs.Ythcoiomnlcagcaa.PRZ
set_option linter.unusedVariables false
set_option linter.unusedSimpArgs false
namespace Rl
theorem up {α : Type} {g : Nat → Option α} (h : ∀ k, LeO (g k) (g (k + 1))) {r : α} {k : Nat} (hk : g k = some r) : ∀ m, k ≤ m → g m = some r := by
  intro m hm
  induction hm with
  | refl => exact hk
  | step _ ih => exact h _ _ ih
theorem sizes_loop (l : List S40) (bs : List Int) (e : Int) (hok : ∀ x ∈ l, Ok x) (hsz : ∀ x ∈ l, x.f2.size ≤ 140737488351232) (hlen : l.length ≤ 40) :
    ∀ (m i : Nat) (n : Int) (b : Bool), i + m = l.length → 0 ≤ n → n ≤ ((i : Int) + 1) * 281474976710656 →
      ((b || (l.drop i).any big) = true → e = 42 ∧ bs.length = 0) → ((b || (l.drop i).any big) = false → e = 0 ∧ (bs.length : Int) = n + (((l.drop i).flatMap bytesV).length : Int)) →
      ∃ k, stilelaw04_RowSizes.l0 k l bs e n b (i : Int) = some true := by
  intro m
  induction m with
  | zero =>
    intro i n b hi h0 hn ht hf
    rw [List.drop_of_length_le (by omega)] at ht hf
    simp only [List.any_nil, Bool.or_false, List.flatMap_nil, List.length_nil] at ht hf
    refine ⟨41, ?_⟩
    unfold stilelaw04_RowSizes.l0
    rw [if_neg (by omega)]
    cases b with
    | true =>
      obtain ⟨rfl, hb⟩ := ht rfl
      rw [if_pos rfl, alive_ok, Option.bind_some, if_pos rfl, if_pos rfl, hb]
      rfl
    | false =>
      obtain ⟨rfl, hb⟩ := hf rfl
      rw [if_neg (by simp), alive_ok, Option.bind_some, if_pos rfl, if_pos rfl, hb]
      simp
  | succ m ih =>
    intro i n b hi h0 hn ht hf
    have hil : i < l.length := by omega
    have hsi := hsz _ (List.getElem_mem hil)
    rw [drop_any l i hil] at ht hf
    rw [List.drop_eq_getElem_cons hil, List.flatMap_cons, List.length_append] at hf
    rcases hok _ (List.getElem_mem hil) with ⟨e0, _⟩ | ⟨e0, _⟩ | ⟨e0, _⟩ | ⟨e0, _⟩
    · have hbig : big l[i] = false := by simp [big, e0]
      have hlb : (bytesV l[i]).length = 1 := by simp [bytesV, e0]
      rw [hbig, Bool.false_or] at ht hf
      obtain ⟨k, hk⟩ := ih (i + 1) (n + 1) b (by omega) (by omega) (by omega) ht (fun q => ⟨(hf q).1, by have := (hf q).2; omega⟩)
      refine ⟨k + 2, ?_⟩
      unfold stilelaw04_RowSizes.l0
      rw [if_pos (by omega), if_pos (by omega), rd40 l i hil, if_neg (by omega)]
      unfold stilelaw04_RowSizes.j1
      rw [if_pos (by omega), if_pos (by omega), rd40 l i hil, if_neg (by omega), w1 i (by omega), w64 (n + 1) (by omega) (by omega)]
      exact hk
    · have hbig : big l[i] = false := by simp [big, e0]
      have hlb : (bytesV l[i]).length = 9 := by simp [bytesV, e0, leL_len]
      rw [hbig, Bool.false_or] at ht hf
      obtain ⟨k, hk⟩ := ih (i + 1) (n + 1 + 8) b (by omega) (by omega) (by omega) ht (fun q => ⟨(hf q).1, by have := (hf q).2; omega⟩)
      refine ⟨k + 2, ?_⟩
      unfold stilelaw04_RowSizes.l0
      rw [if_pos (by omega), if_pos (by omega), rd40 l i hil, if_pos e0]
      unfold stilelaw04_RowSizes.j1
      rw [if_pos (by omega), if_pos (by omega), rd40 l i hil, if_neg (by omega), w1 i (by omega), w64 (n + 1) (by omega) (by omega), w64 (n + 1 + 8) (by omega) (by omega)]
      exact hk
    · have hbig : big l[i] = decide ((l[i].f2.size : Int) > 400) := by simp [big, e0]
      have hlb : (bytesV l[i]).length = 3 + l[i].f2.size := by simp [bytesV, e0, leL_len, bytesOf_len]; omega
      rw [hbig] at ht hf
      cases b with
      | true =>
        simp only [Bool.true_or] at ht hf
        obtain ⟨k, hk⟩ := ih (i + 1) (n + 1 + 2 + (l[i].f2.size : Int)) true (by omega) (by omega) (by omega) (fun _ => ht trivial) (fun q => by simp at q)
        refine ⟨k + 2, ?_⟩
        unfold stilelaw04_RowSizes.l0
        rw [if_pos (by omega), if_pos (by omega), rd40 l i hil, if_neg (by omega)]
        unfold stilelaw04_RowSizes.j1
        rw [if_pos (by omega), if_pos (by omega), rd40 l i hil, if_pos e0, if_pos rfl, w1 i (by omega), w64 (n + 1) (by omega) (by omega), w64 (n + 1 + 2) (by omega) (by omega), w64 (n + 1 + 2 + (l[i].f2.size : Int)) (by omega) (by omega)]
        exact hk
      | false =>
        simp only [Bool.false_or] at ht hf
        obtain ⟨k, hk⟩ := ih (i + 1) (n + 1 + 2 + (l[i].f2.size : Int)) (decide ((l[i].f2.size : Int) > 400)) (by omega) (by omega) (by omega) ht (fun q => ⟨(hf q).1, by have := (hf q).2; omega⟩)
        refine ⟨k + 2, ?_⟩
        unfold stilelaw04_RowSizes.l0
        rw [if_pos (by omega), if_pos (by omega), rd40 l i hil, if_neg (by omega)]
        unfold stilelaw04_RowSizes.j1
        rw [if_pos (by omega), if_pos (by omega), rd40 l i hil, if_pos e0, if_neg (by simp), w1 i (by omega), w64 (n + 1) (by omega) (by omega), w64 (n + 1 + 2) (by omega) (by omega), w64 (n + 1 + 2 + (l[i].f2.size : Int)) (by omega) (by omega)]
        exact hk
    · have hbig : big l[i] = false := by simp [big, e0]
      have hlb : (bytesV l[i]).length = 1 := by
        cases hq : l[i].f3 <;> simp [bytesV, e0, hq]
      rw [hbig, Bool.false_or] at ht hf
      obtain ⟨k, hk⟩ := ih (i + 1) (n + 1) b (by omega) (by omega) (by omega) ht (fun q => ⟨(hf q).1, by have := (hf q).2; omega⟩)
      refine ⟨k + 2, ?_⟩
      unfold stilelaw04_RowSizes.l0
      rw [if_pos (by omega), if_pos (by omega), rd40 l i hil, if_neg (by omega)]
      unfold stilelaw04_RowSizes.j1
      rw [if_pos (by omega), if_pos (by omega), rd40 l i hil, if_neg (by omega), w1 i (by omega), w64 (n + 1) (by omega) (by omega)]
      exact hk
theorem row_sz (l : List S44) (h : ∀ x ∈ l, x.f2.size ≤ 140737488351232) : ∀ x ∈ rowOf l, x.f2.size ≤ 140737488351232 := by
  intro x hx
  obtain ⟨y, hy, rfl⟩ := List.mem_map.1 hx
  have hy' := h y (List.mem_of_mem_take hy)
  unfold val
  by_cases h1 : pk y.f0 = 1
  · simp [h1, ByteArray.size]
  by_cases h2 : pk y.f0 = 2
  · simpa [h1, h2] using hy'
  by_cases h3 : pk y.f0 = 3
  · simp [h1, h2, h3, ByteArray.size]
  simp [h1, h2, h3, ByteArray.size]
/-- HOW LONG A ROW IS, in plain Lean. -/
theorem sizes (l : List S44) (h : ∀ x ∈ l, x.f2.size ≤ 140737488351232) : ∃ k, stilelaw04_RowSizes.f k l = some true := by
  obtain ⟨k1, h1⟩ := row_f l
  obtain ⟨k2, h2⟩ := encode_f (rowOf l) (row_ok l) (row_len l)
  have h3 : ∃ k, stilelaw04_RowSizes.l0 k (rowOf l) (if long (rowOf l) then (([], 42) : List Int × Int) else (bytesR (rowOf l), 0)).1 (if long (rowOf l) then (([], 42) : List Int × Int) else (bytesR (rowOf l), 0)).2 1 (decide (((rowOf l).length : Int) > 12)) ((0 : Nat) : Int) = some true := by
    refine sizes_loop (rowOf l) _ _ (row_ok l) (row_sz l h) (row_len l) (rowOf l).length 0 1 _ (by omega) (by omega) (by omega) (fun q => ?_) (fun q => ?_)
    · have hl : long (rowOf l) = true := by simpa [long] using q
      rw [hl]
      simp
    · have hl : long (rowOf l) = false := by simpa [long] using q
      rw [hl]
      simp [bytesR]
      omega
  obtain ⟨k3, h3⟩ := h3
  refine ⟨k1 + k2 + k3, ?_⟩
  unfold stilelaw04_RowSizes.f
  rw [up (g := fun k => stilelaw03_Row.f k l) (fun k => stilelaw03_Row.mono _ _) h1 _ (by omega), Option.bind_some, up (g := fun k => rowcode_Encode.f k (rowOf l)) (fun k => rowcode_Encode.mono _ _) h2 _ (by omega), Option.bind_some]
  exact up (g := fun k => stilelaw04_RowSizes.l0 k (rowOf l) _ _ 1 _ 0) (fun k => (stilelaw04_RowSizes.mono_l k).1 _ _ _ _ _ _) h3 _ (by omega)
theorem sizes_walk (A0 : Option Addr) (c0 : Nat) (l0 : List (S44)) (w : World) (hr0 : Kd.C k44 w A0 l0.length l0) (hc0 : l0.length ≤ c0) (h : ∀ x ∈ l0, x.f2.size ≤ 140737488351232) :
    Calls Try.prog 6 #[.slice A0 l0.length c0] w fun e w' => e = .returned (.bool true) ∧ Below w.heap.size w w' := by
  obtain ⟨k, hk⟩ := sizes l0 h
  exact stilelaw04_RowSizes.calls k A0 c0 l0 true w hr0 hc0 hk
end Rl
end Go.Proofs.Ythcoiomnlcagcaa

namespace Go.Proofs.Ythcoiomnlcagcaa.PRZ
open Go.RowKit Go.Proofs.YthcoiomnlcagcaaW.PrintWords Go.Proofs.YthcoiomnlcagcaaW.PrintLast Go.Proofs.YthcoiomnlcagcaaW.PrintMore
attribute [local go_sem] max2_int min2_int max_two min_two max_three min_three max_four min_four   -- for this text's walks alone
set_option linter.unusedVariables false
set_option linter.unusedSimpArgs false

/-! ### stileref04_Same: function 13 -/
def stileref04_Same.f (l0 : List Int) (l1 : List Int) : Option (Bool) := some ((strOfNums l0).toList == (strOfNums l1).toList)
set_option maxHeartbeats 8000000 in
set_option maxRecDepth 100000 in
theorem stileref04_Same.calls (A0 : Option Addr) (c0 : Nat) (l0 : List Int) (A1 : Option Addr) (c1 : Nat) (l1 : List Int) (r : Bool) (w : World) (hr0 : Kd.C (Kd.int .u8) w A0 l0.length l0) (hc0 : l0.length ≤ c0) (hr1 : Kd.C (Kd.int .u8) w A1 l1.length l1) (hc1 : l1.length ≤ c1) (h : stileref04_Same.f l0 l1 = some r) :
    Calls Try.prog 13 #[.slice A0 l0.length c0, .slice A1 l1.length c1] w fun e w' => e = .returned (.bool r) ∧ Drawn0 w w' := by
  have HR0 := Aside0.mk hr0
  have HC0 := Aside0.mk hc0
  clear hr0 hc0
  have HR1 := Aside0.mk hr1
  have HC1 := Aside0.mk hc1
  clear hr1 hc1
  have H : (some ((strOfNums l0).toList == (strOfNums l1).toList)) = some r := h
  clear h
  obtain rfl := Option.some.inj H
  have hcv3 := Kd.C_string (P := Try.prog) (A := A0) (c := c0) Try.underlying25 Try.underlying5 Try.underlying9 HR0.out
  have hcv4 := Kd.C_string (P := Try.prog) (A := A1) (c := c1) Try.underlying25 Try.underlying5 Try.underlying9 HR1.out
  go_enter Try.func13, Try.ntmps13
  go_wp2
  go_ret
  exact ⟨by first | rfl | (simp; done) | (simp [*]; done), by repeat (first | exact Drawn0.refl _ | apply Drawn0.step)⟩

end Go.Proofs.Ythcoiomnlcagcaa.PRZ

namespace Go.Proofs.Ythcoiomnlcagcaa.PRZ
open Go.RowKit Go.Proofs.YthcoiomnlcagcaaW.PrintWords Go.Proofs.YthcoiomnlcagcaaW.PrintLast Go.Proofs.YthcoiomnlcagcaaW.PrintMore
attribute [local go_sem] max2_int min2_int max_two min_two max_three min_three max_four min_four   -- for this text's walks alone
set_option linter.unusedVariables false
set_option linter.unusedSimpArgs false

theorem eqA40 (d : Nat) (w : World) (x0 y0 : Int) (x1 y1 : Int) (x2 y2 : ByteArray) (x3 y3 : Bool) :
    (Op.equalIn (d + 2) 40 (.agg #[.int .i64 x0, .int .i64 x1, .string x2, .bool x3]) (.agg #[.int .i64 y0, .int .i64 y1, .string y2, .bool y3])).run Try.prog w = .ok (x0 == y0 && (x1 == y1 && (x2.toList == y2.toList && (x3 == y3)))) w := by
  refine eqA_of Try.underlying40 (by kernel_rfl) ?_
  refine eqf_cons (by rfl) (by go_simp; rfl) (by go_simp; rfl) (by go_simp) ?_
  refine eqf_cons (by rfl) (by go_simp; rfl) (by go_simp; rfl) (by go_simp) ?_
  refine eqf_cons (by rfl) (by go_simp; rfl) (by go_simp; rfl) (by go_simp) ?_
  exact eqf_last (by rfl) (by go_simp; rfl) (by go_simp; rfl) (by go_simp)
end Go.Proofs.Ythcoiomnlcagcaa.PRZ

namespace Go.Proofs.Ythcoiomnlcagcaa.PRZ
open Go.RowKit Go.Proofs.YthcoiomnlcagcaaW.PrintWords Go.Proofs.YthcoiomnlcagcaaW.PrintLast Go.Proofs.YthcoiomnlcagcaaW.PrintMore
attribute [local go_sem] max2_int min2_int max_two min_two max_three min_three max_four min_four   -- for this text's walks alone
set_option linter.unusedVariables false
set_option linter.unusedSimpArgs false

attribute [local go_sem high] eqA40
/-! ### stileref01_SameRow: function 14 -/
def stileref01_SameRow.l0 : Nat → List (S40) → List (S40) → Int → Option (Bool)
  | 0, _, _, _ => none
  | k + 1, x0, x1, x5 => if x5 < (x0.length : Int) then (if 0 ≤ x5 then (if x5 < (x1.length : Int) then (if (!(((rd_T40 x0 x5).f0) == ((rd_T40 x1 x5).f0)) || (!(((rd_T40 x0 x5).f1) == ((rd_T40 x1 x5).f1)) || (!((((rd_T40 x0 x5).f2).toList) == (((rd_T40 x1 x5).f2).toList)) || (!(((rd_T40 x0 x5).f3) == ((rd_T40 x1 x5).f3)))))) = true then (some false) else (stileref01_SameRow.l0 k x0 x1 (wrap64 (x5 + 1)))) else (none)) else (none)) else (some true)
def stileref01_SameRow.f (k : Nat) (l0 : List (S40)) (l1 : List (S40)) : Option (Bool) := if (l0.length : Int) = (l1.length : Int) then (stileref01_SameRow.l0 k l0 l1 0) else (some false)
theorem stileref01_SameRow.mono_l : ∀ k, (∀ y0 y1 y2, LeO (stileref01_SameRow.l0 k y0 y1 y2) (stileref01_SameRow.l0 (k + 1) y0 y1 y2))
  | 0 => fun _ _ _ r h => by simp [stileref01_SameRow.l0] at h
  | k + 1 => by
    have ih0 := stileref01_SameRow.mono_l k
    · intro y0 y1 y2
      unfold stileref01_SameRow.l0
      repeat' first
      | (with_reducible exact ih0 _ _ _)
      | (with_reducible exact LeO.refl _)
      | (with_reducible exact LeO.none _)
      | (with_reducible refine LeO.ite ?_ ?_)
      | (with_reducible refine LeO.bind ?_ (fun _ => ?_))
      | exact ih0 _ _ _
      | exact LeO.none _
      | refine LeO.ite ?_ ?_
      | refine LeO.bind ?_ (fun _ => ?_)
theorem stileref01_SameRow.mono : ∀ a0 a1 k, LeO (stileref01_SameRow.f k a0 a1) (stileref01_SameRow.f (k + 1) a0 a1) := by
  intro a0 a1 k
  have ih0 := stileref01_SameRow.mono_l k
  unfold stileref01_SameRow.f
  repeat' first
      | (with_reducible exact ih0 _ _ _)
      | (with_reducible exact LeO.refl _)
      | (with_reducible exact LeO.none _)
      | (with_reducible refine LeO.ite ?_ ?_)
      | (with_reducible refine LeO.bind ?_ (fun _ => ?_))
      | exact ih0 _ _ _
      | exact LeO.none _
      | refine LeO.ite ?_ ?_
      | refine LeO.bind ?_ (fun _ => ?_)
set_option maxHeartbeats 8000000 in
set_option maxRecDepth 100000 in
theorem stileref01_SameRow.calls (k : Nat) (A0 : Option Addr) (c0 : Nat) (l0 : List (S40)) (A1 : Option Addr) (c1 : Nat) (l1 : List (S40)) (r : Bool) (w : World) (hr0 : Kd.C k40 w A0 l0.length l0) (hc0 : l0.length ≤ c0) (hr1 : Kd.C k40 w A1 l1.length l1) (hc1 : l1.length ≤ c1) (h : stileref01_SameRow.f k l0 l1 = some r) :
    Calls Try.prog 14 #[.slice A0 l0.length c0, .slice A1 l1.length c1] w fun e w' => e = .returned (.bool r) ∧ Drawn0 w w' := by
  have hu40 := Try.underlying40
  have HR0 := Aside0.mk hr0
  have HC0 := Aside0.mk hc0
  clear hr0 hc0
  have HR1 := Aside0.mk hr1
  have HC1 := Aside0.mk hc1
  clear hr1 hc1
  have H : (if (l0.length : Int) = (l1.length : Int) then (stileref01_SameRow.l0 k l0 l1 0) else (some false)) = some r := h
  clear h
  by_cases c3 : (l0.length : Int) = (l1.length : Int)
  · rw [if_pos c3] at H
    have c3b0 : ((l0.length : Int) == (l1.length : Int)) = true := beq_iff_eq.mpr c3
    have c3b1 : ((l0.length : Int) != (l1.length : Int)) = false := bne_eq_false_iff_eq.mpr c3
    have c3b2 : (l0.length == l1.length) = true := by first | simpa using c3 | (simp at c3 ⊢; omega)
    clear c3
    have H' := Aside0.mk H
    clear H
    go_enter Try.func14, Try.ntmps14
    go_wp2
    repeat (go_quiet (fail); try go_wp2)
    go_loopg [5] k (fun kq v5 w' => ∃ (x5_1 : Int), v5 = .int .i64 x5_1 ∧ Aside0 (stileref01_SameRow.l0 kq l0 l1 x5_1 = some r) ∧ Aside0 (kq ≤ k) ∧ Drawn0 w w')
    case atStart => exact ⟨(0), (by first | rfl | (simp; done) | (simp [*]; done)), H', ⟨Nat.le_refl _⟩, by repeat (first | exact Drawn0.refl _ | apply Drawn0.step)⟩
    case round =>
      clear H'
      try clear c1
      try clear p2
      try clear c3
      try clear c3b0
      try clear c3b1
      try clear c3b2
      obtain ⟨x5_1, rfl, HA, HK1, ⟨m1, rfl⟩⟩ := hrel
      cases gk with
      | zero => exact absurd HA.out (by simp [stileref01_SameRow.l0])
      | succ k1 =>
        have H := HA.out
        clear HA
        simp only [stileref01_SameRow.l0] at H
        by_cases c4 : x5_1 < (l0.length : Int)
        · rw [if_pos c4] at H
          have c4b0 : decide (x5_1 < (l0.length : Int)) = true := decide_eq_true c4
          clear c4
          by_cases c5 : 0 ≤ x5_1
          · rw [if_pos c5] at H
            have c5b0 : decide (0 ≤ x5_1) = true := decide_eq_true c5
            clear c5
            by_cases c6 : x5_1 < (l1.length : Int)
            · rw [if_pos c6] at H
              have c6b0 : decide (x5_1 < (l1.length : Int)) = true := decide_eq_true c6
              clear c6
              by_cases c7 : (!(((rd_T40 l0 x5_1).f0) == ((rd_T40 l1 x5_1).f0)) || (!(((rd_T40 l0 x5_1).f1) == ((rd_T40 l1 x5_1).f1)) || (!((((rd_T40 l0 x5_1).f2).toList) == (((rd_T40 l1 x5_1).f2).toList)) || (!(((rd_T40 l0 x5_1).f3) == ((rd_T40 l1 x5_1).f3)))))) = true
              · rw [if_pos c7] at H
                have c7b0 : (!(((rd_T40 l0 x5_1).f0) == ((rd_T40 l1 x5_1).f0)) || (!(((rd_T40 l0 x5_1).f1) == ((rd_T40 l1 x5_1).f1)) || (!((((rd_T40 l0 x5_1).f2).toList) == (((rd_T40 l1 x5_1).f2).toList)) || (!(((rd_T40 l0 x5_1).f3) == ((rd_T40 l1 x5_1).f3)))))) = true := c7
                clear c7
                obtain rfl := Option.some.inj H
                have p189 : 0 ≤ (x5_1 : Int) := of_decide_eq_true (by first | (with_reducible assumption) | assumption)
                have q189 : x5_1 < (l0.length : Int) := of_decide_eq_true (by first | (with_reducible assumption) | assumption)
                obtain ⟨ad189, e189, hx189_0, hx189_1, hx189_2, hx189_3⟩ := at_T40 HR0.out x5_1 p189 q189
                cases e189
                replace p189 := eq_true p189
                replace q189 := eq_true q189
                have p190 : 0 ≤ (x5_1 : Int) := of_decide_eq_true (by first | (with_reducible assumption) | assumption)
                have q190 : x5_1 < (l1.length : Int) := of_decide_eq_true (by first | (with_reducible assumption) | assumption)
                obtain ⟨ad190, e190, hx190_0, hx190_1, hx190_2, hx190_3⟩ := at_T40 HR1.out x5_1 p190 q190
                cases e190
                replace p190 := eq_true p190
                replace q190 := eq_true q190
                go_wp2
                repeat (go_quiet (fail); try go_wp2)
                go_ret
                exact ⟨by first | rfl | (simp; done) | (simp [*]; done), by repeat (first | exact Drawn0.refl _ | apply Drawn0.step)⟩
              · rw [if_neg c7] at H
                have c7b0 : (!(((rd_T40 l0 x5_1).f0) == ((rd_T40 l1 x5_1).f0)) || (!(((rd_T40 l0 x5_1).f1) == ((rd_T40 l1 x5_1).f1)) || (!((((rd_T40 l0 x5_1).f2).toList) == (((rd_T40 l1 x5_1).f2).toList)) || (!(((rd_T40 l0 x5_1).f3) == ((rd_T40 l1 x5_1).f3)))))) = false := by simpa using c7
                clear c7
                have H' := Aside0.mk H
                clear H
                have p189 : 0 ≤ (x5_1 : Int) := of_decide_eq_true (by first | (with_reducible assumption) | assumption)
                have q189 : x5_1 < (l0.length : Int) := of_decide_eq_true (by first | (with_reducible assumption) | assumption)
                obtain ⟨ad189, e189, hx189_0, hx189_1, hx189_2, hx189_3⟩ := at_T40 HR0.out x5_1 p189 q189
                cases e189
                replace p189 := eq_true p189
                replace q189 := eq_true q189
                have p190 : 0 ≤ (x5_1 : Int) := of_decide_eq_true (by first | (with_reducible assumption) | assumption)
                have q190 : x5_1 < (l1.length : Int) := of_decide_eq_true (by first | (with_reducible assumption) | assumption)
                obtain ⟨ad190, e190, hx190_0, hx190_1, hx190_2, hx190_3⟩ := at_T40 HR1.out x5_1 p190 q190
                cases e190
                replace p190 := eq_true p190
                replace q190 := eq_true q190
                go_wp2
                repeat (go_quiet (fail); try go_wp2)
                go_roundg k1
                case measure => have := HK1.out; omega
                case rel => exact ⟨(wrap64 (x5_1 + 1)), (by first | rfl | (simp; done) | (simp [*]; done)), H', ⟨by have := HK1.out; omega⟩, by repeat (first | exact Drawn0.refl _ | apply Drawn0.step)⟩
            · rw [if_neg c6] at H
              exact absurd H (by simp)
          · rw [if_neg c5] at H
            exact absurd H (by simp)
        · rw [if_neg c4] at H
          have c4b0 : decide (x5_1 < (l0.length : Int)) = false := decide_eq_false c4
          clear c4
          obtain rfl := Option.some.inj H
          go_wp2
          repeat (go_quiet (fail); try go_wp2)
          go_ret
          exact ⟨by first | rfl | (simp; done) | (simp [*]; done), by repeat (first | exact Drawn0.refl _ | apply Drawn0.step)⟩
  · rw [if_neg c3] at H
    have c3b0 : ((l0.length : Int) == (l1.length : Int)) = false := beq_eq_false_iff_ne.mpr c3
    have c3b1 : ((l0.length : Int) != (l1.length : Int)) = true := bne_iff_ne.mpr c3
    have c3b2 : (l0.length == l1.length) = false := by first | simpa using c3 | (simp at c3 ⊢; omega)
    obtain rfl := Option.some.inj H
    go_enter Try.func14, Try.ntmps14
    go_wp2
    repeat (go_quiet (fail); try go_wp2)
    go_ret
    exact ⟨by first | rfl | (simp; done) | (simp [*]; done), by repeat (first | exact Drawn0.refl _ | apply Drawn0.step)⟩

end Go.Proofs.Ythcoiomnlcagcaa.PRZ

namespace Go.Proofs.Ythcoiomnlcagcaa.PRZ
open Go.RowKit Go.Proofs.YthcoiomnlcagcaaW.PrintWords Go.Proofs.YthcoiomnlcagcaaW.PrintLast Go.Proofs.YthcoiomnlcagcaaW.PrintMore
attribute [local go_sem] max2_int min2_int max_two min_two max_three min_three max_four min_four   -- for this text's walks alone
set_option linter.unusedVariables false
set_option linter.unusedSimpArgs false

/-! ### stilelaw04_RowApart: function 7 -/
def stilelaw04_RowApart.j0 : Nat → List (S40) → List (S40) → List Int → List Int → Bool → Option (Bool)
  | 0, _, _, _, _, _ => none
  | k + 1, x5, x6, x7, x9, x32 => if x32 = true then ((stilelaw04_alive.f k).bind fun t205 => (some t205)) else ((stileref01_SameRow.f k x5 x6).bind fun t206 => ((stileref04_Same.f x7 x9).bind fun t207 => ((stilelaw04_alive.f k).bind fun t208 => (if t208 = true then (some (t206 == t207)) else (some false)))))
def stilelaw04_RowApart.f (k : Nat) (l0 : List (S44)) (l1 : List (S44)) : Option (Bool) := (stilelaw03_Row.f k l0).bind fun t191 => ((stilelaw03_Row.f k l1).bind fun t194 => ((rowcode_Encode.f k t191).bind fun bt197 => ((rowcode_Encode.f k t194).bind fun bt201 => (if bt197.2 = 0 then (stilelaw04_RowApart.j0 k t191 t194 bt197.1 bt201.1 (bt201.2 != 0)) else (stilelaw04_RowApart.j0 k t191 t194 bt197.1 bt201.1 true)))))
theorem stilelaw04_RowApart.mono_l : ∀ k, (∀ y0 y1 y2 y3 y4, LeO (stilelaw04_RowApart.j0 k y0 y1 y2 y3 y4) (stilelaw04_RowApart.j0 (k + 1) y0 y1 y2 y3 y4))
  | 0 => fun _ _ _ _ _ r h => by simp [stilelaw04_RowApart.j0] at h
  | k + 1 => by
    have ih0 := stilelaw04_RowApart.mono_l k
    · intro y0 y1 y2 y3 y4
      unfold stilelaw04_RowApart.j0
      repeat' first
      | (with_reducible exact ih0 _ _ _ _ _)
      | (with_reducible exact rowcode_Encode.mono _ _)
      | (with_reducible exact stilelaw03_Row.mono _ _)
      | (with_reducible exact stilelaw04_alive.mono _)
      | (with_reducible exact stileref01_SameRow.mono _ _ _)
      | (with_reducible exact LeO.refl _)
      | (with_reducible exact LeO.none _)
      | (with_reducible refine LeO.ite ?_ ?_)
      | (with_reducible refine LeO.bind ?_ (fun _ => ?_))
      | exact ih0 _ _ _ _ _
      | exact rowcode_Encode.mono _ _
      | exact stilelaw03_Row.mono _ _
      | exact stilelaw04_alive.mono _
      | exact stileref01_SameRow.mono _ _ _
      | exact LeO.none _
      | refine LeO.ite ?_ ?_
      | refine LeO.bind ?_ (fun _ => ?_)
theorem stilelaw04_RowApart.mono : ∀ a0 a1 k, LeO (stilelaw04_RowApart.f k a0 a1) (stilelaw04_RowApart.f (k + 1) a0 a1) := by
  intro a0 a1 k
  have ih0 := stilelaw04_RowApart.mono_l k
  unfold stilelaw04_RowApart.f
  repeat' first
      | (with_reducible exact ih0 _ _ _ _ _)
      | (with_reducible exact rowcode_Encode.mono _ _)
      | (with_reducible exact stilelaw03_Row.mono _ _)
      | (with_reducible exact stilelaw04_alive.mono _)
      | (with_reducible exact stileref01_SameRow.mono _ _ _)
      | (with_reducible exact LeO.refl _)
      | (with_reducible exact LeO.none _)
      | (with_reducible refine LeO.ite ?_ ?_)
      | (with_reducible refine LeO.bind ?_ (fun _ => ?_))
      | exact ih0 _ _ _ _ _
      | exact rowcode_Encode.mono _ _
      | exact stilelaw03_Row.mono _ _
      | exact stilelaw04_alive.mono _
      | exact stileref01_SameRow.mono _ _ _
      | exact LeO.none _
      | refine LeO.ite ?_ ?_
      | refine LeO.bind ?_ (fun _ => ?_)
set_option maxHeartbeats 8000000 in
set_option maxRecDepth 100000 in
theorem stilelaw04_RowApart.calls (k : Nat) (A0 : Option Addr) (c0 : Nat) (l0 : List (S44)) (A1 : Option Addr) (c1 : Nat) (l1 : List (S44)) (r : Bool) (w : World) (hr0 : Kd.C k44 w A0 l0.length l0) (hc0 : l0.length ≤ c0) (hr1 : Kd.C k44 w A1 l1.length l1) (hc1 : l1.length ≤ c1) (h : stilelaw04_RowApart.f k l0 l1 = some r) :
    Calls Try.prog 7 #[.slice A0 l0.length c0, .slice A1 l1.length c1] w fun e w' => e = .returned (.bool r) ∧ Below w.heap.size w w' := by
  have HR0 := Aside0.mk hr0
  have HC0 := Aside0.mk hc0
  clear hr0 hc0
  have HR1 := Aside0.mk hr1
  have HC1 := Aside0.mk hc1
  clear hr1 hc1
  have HB := Aside0.mk (Below.refl w.heap.size w)
  have H : ((stilelaw03_Row.f k l0).bind fun t191 => ((stilelaw03_Row.f k l1).bind fun t194 => ((rowcode_Encode.f k t191).bind fun bt197 => ((rowcode_Encode.f k t194).bind fun bt201 => (if bt197.2 = 0 then (stilelaw04_RowApart.j0 k t191 t194 bt197.1 bt201.1 (bt201.2 != 0)) else (stilelaw04_RowApart.j0 k t191 t194 bt197.1 bt201.1 true)))))) = some r := h
  clear h
  replace H := Option.bind_eq_some_iff.mp H
  obtain ⟨t191, A30, H⟩ := H
  replace H : ((stilelaw03_Row.f k l1).bind fun t194 => ((rowcode_Encode.f k t191).bind fun bt197 => ((rowcode_Encode.f k t194).bind fun bt201 => (if bt197.2 = 0 then (stilelaw04_RowApart.j0 k t191 t194 bt197.1 bt201.1 (bt201.2 != 0)) else (stilelaw04_RowApart.j0 k t191 t194 bt197.1 bt201.1 true))))) = some r := H
  have A3 := Aside0.mk A30
  clear A30
  replace H := Option.bind_eq_some_iff.mp H
  obtain ⟨t194, A40, H⟩ := H
  replace H : ((rowcode_Encode.f k t191).bind fun bt197 => ((rowcode_Encode.f k t194).bind fun bt201 => (if bt197.2 = 0 then (stilelaw04_RowApart.j0 k t191 t194 bt197.1 bt201.1 (bt201.2 != 0)) else (stilelaw04_RowApart.j0 k t191 t194 bt197.1 bt201.1 true)))) = some r := H
  have A4 := Aside0.mk A40
  clear A40
  replace H := Option.bind_eq_some_iff.mp H
  obtain ⟨⟨t197, t198⟩, A50, H⟩ := H
  replace H : ((rowcode_Encode.f k t194).bind fun bt201 => (if t198 = 0 then (stilelaw04_RowApart.j0 k t191 t194 t197 bt201.1 (bt201.2 != 0)) else (stilelaw04_RowApart.j0 k t191 t194 t197 bt201.1 true))) = some r := H
  have A5 := Aside0.mk A50
  clear A50
  replace H := Option.bind_eq_some_iff.mp H
  obtain ⟨⟨t201, t202⟩, A60, H⟩ := H
  replace H : (if t198 = 0 then (stilelaw04_RowApart.j0 k t191 t194 t197 t201 (t202 != 0)) else (stilelaw04_RowApart.j0 k t191 t194 t197 t201 true)) = some r := H
  have A6 := Aside0.mk A60
  clear A60
  have HC7 := Aside0.mk H
  clear H
  go_enter Try.func7, Try.ntmps7
  go_upto_region 5 with (first | ((with_reducible refine gate_callee (f := 8) rfl ?_); refine goesL_ (some 14) rfl rfl Try.func8 (by kernel_rfl) rfl #[.slice A0 l0.length c0] rfl (by (try simp only [List.map_toArray, List.map_cons, List.map_nil]); first | done | rfl | (simp only [List.length_drop, List.length_take]; rfl)) ?_; (with_reducible refine (stilelaw03_Row.calls k _ _ l0 t191 _ ?side1 ?side2 A3.out).mono ?_); (case side1 => repeat (first | exact HR0.out | (with_reducible refine Kd.C_alloc ?_ _) | (with_reducible refine Kd.C_drewN ?_ _) | (with_reducible refine Kd.C_drew ?_))); (case side2 => exact HC0.out); rintro e w8 ⟨v192, rfl, ho0, hb⟩; refine ⟨_, rfl, ?_⟩; have n0_ := Aside0.mk (Kd.R_lower ho0 (below_size (by repeat (first | (with_reducible first | exact HB.out | apply below_alloc | apply pw_below_drewN | apply below_drew1) | exact HB.out)))); have n1_ := Aside0.mk (below_step (by repeat (first | (with_reducible first | exact HB.out | apply below_alloc | apply pw_below_drewN | apply below_drew1) | exact HB.out)) hb); clear HB; have HO193 := n0_; have HB := n1_; clear n0_ n1_; (try clear hb); (try clear hb2); (try clear hk); (try clear hi); (try clear ho0)) | ((with_reducible refine gate_callee (f := 8) rfl ?_); refine goesL_ (some 16) rfl rfl Try.func8 (by kernel_rfl) rfl #[.slice A1 l1.length c1] rfl (by (try simp only [List.map_toArray, List.map_cons, List.map_nil]); first | done | rfl | (simp only [List.length_drop, List.length_take]; rfl)) ?_; (with_reducible refine (stilelaw03_Row.calls k _ _ l1 t194 _ ?side1 ?side2 A4.out).mono ?_); (case side1 => repeat (first | exact (Kd.C_below HR1.out HB.out) | (with_reducible refine Kd.C_alloc ?_ _) | (with_reducible refine Kd.C_drewN ?_ _) | (with_reducible refine Kd.C_drew ?_))); (case side2 => exact HC1.out); rintro e w9 ⟨v195, rfl, ho0, hb⟩; refine ⟨_, rfl, ?_⟩; have n0_ := Aside0.mk (Kd.R_elder' (by (with_reducible repeat (first | apply Kd.R_alloc | apply Kd.R_drewN | apply Kd.R_drew)); exact HO193.out) (Kd.R_base ho0) hb); have n1_ := Aside0.mk (Kd.R_lower (Kd.R_new' ho0 (Kd.R_lt (by (with_reducible repeat (first | apply Kd.R_alloc | apply Kd.R_drewN | apply Kd.R_drew)); exact HO193.out))) (below_size (by repeat (first | (with_reducible first | exact HB.out | apply below_alloc | apply pw_below_drewN | apply below_drew1) | exact HB.out)))); have n2_ := Aside0.mk (below_step (by repeat (first | (with_reducible first | exact HB.out | apply below_alloc | apply pw_below_drewN | apply below_drew1) | exact HB.out)) hb); clear HO193; clear HB; have HO193 := n0_; have HO196 := n1_; have HB := n2_; clear n0_ n1_ n2_; (try clear hb); (try clear hb2); (try clear hk); (try clear hi); (try clear ho0); obtain ⟨Ao10, co10, eo10⟩ := Kd.R_slice HO193.out; subst eo10) | ((with_reducible refine gate_callee (f := 9) rfl ?_); refine goesL_ (some 19) rfl rfl Try.func9 (by kernel_rfl) rfl #[.slice Ao10 t191.length co10] rfl (by (try simp only [List.map_toArray, List.map_cons, List.map_nil]); first | done | rfl | (simp only [List.length_drop, List.length_take]; rfl)) ?_; (with_reducible refine (rowcode_Encode.calls k _ _ t191 t197 t198 _ ?side1 ?side2 A5.out).mono ?_); (case side1 => repeat (first | exact (Kd.R_reads' HO193.out).2.2 | (with_reducible refine Kd.C_alloc ?_ _) | (with_reducible refine Kd.C_drewN ?_ _) | (with_reducible refine Kd.C_drew ?_))); (case side2 => exact (Kd.R_reads' HO193.out).2.1); rintro e w11 ⟨v199, rfl, ho0, hb⟩; refine ⟨_, rfl, ?_⟩; have n0_ := Aside0.mk (Kd.R_below (by (with_reducible repeat (first | apply Kd.R_alloc | apply Kd.R_drewN | apply Kd.R_drew)); exact HO193.out) hb); have n1_ := Aside0.mk (Kd.R_below (by (with_reducible repeat (first | apply Kd.R_alloc | apply Kd.R_drewN | apply Kd.R_drew)); exact HO196.out) hb); have n2_ := Aside0.mk (Kd.R_lower ho0 (below_size (by repeat (first | (with_reducible first | exact HB.out | apply below_alloc | apply pw_below_drewN | apply below_drew1) | exact HB.out)))); have n3_ := Aside0.mk (below_step (by repeat (first | (with_reducible first | exact HB.out | apply below_alloc | apply pw_below_drewN | apply below_drew1) | exact HB.out)) hb); clear HO193; clear HO196; clear HB; have HO193 := n0_; have HO196 := n1_; have HO200 := n2_; have HB := n3_; clear n0_ n1_ n2_ n3_; (try clear hb); (try clear hb2); (try clear hk); (try clear hi); (try clear ho0); obtain ⟨Ao12, co12, eo12⟩ := Kd.R_slice HO196.out; subst eo12) | ((with_reducible refine gate_callee (f := 9) rfl ?_); refine goesL_ (some 24) rfl rfl Try.func9 (by kernel_rfl) rfl #[.slice Ao12 t194.length co12] rfl (by (try simp only [List.map_toArray, List.map_cons, List.map_nil]); first | done | rfl | (simp only [List.length_drop, List.length_take]; rfl)) ?_; (with_reducible refine (rowcode_Encode.calls k _ _ t194 t201 t202 _ ?side1 ?side2 A6.out).mono ?_); (case side1 => repeat (first | exact (Kd.R_reads' HO196.out).2.2 | (with_reducible refine Kd.C_alloc ?_ _) | (with_reducible refine Kd.C_drewN ?_ _) | (with_reducible refine Kd.C_drew ?_))); (case side2 => exact (Kd.R_reads' HO196.out).2.1); rintro e w13 ⟨v203, rfl, ho0, hb⟩; refine ⟨_, rfl, ?_⟩; have n0_ := Aside0.mk (Kd.R_below (by (with_reducible repeat (first | apply Kd.R_alloc | apply Kd.R_drewN | apply Kd.R_drew)); exact HO193.out) hb); have n1_ := Aside0.mk (Kd.R_below (by (with_reducible repeat (first | apply Kd.R_alloc | apply Kd.R_drewN | apply Kd.R_drew)); exact HO196.out) hb); have n2_ := Aside0.mk (Kd.R_elder' (by (with_reducible repeat (first | apply Kd.R_alloc | apply Kd.R_drewN | apply Kd.R_drew)); exact HO200.out) (Kd.R_base ho0) hb); have n3_ := Aside0.mk (Kd.R_lower (Kd.R_new' ho0 (Kd.R_lt (by (with_reducible repeat (first | apply Kd.R_alloc | apply Kd.R_drewN | apply Kd.R_drew)); exact HO200.out))) (below_size (by repeat (first | (with_reducible first | exact HB.out | apply below_alloc | apply pw_below_drewN | apply below_drew1) | exact HB.out)))); have n4_ := Aside0.mk (below_step (by repeat (first | (with_reducible first | exact HB.out | apply below_alloc | apply pw_below_drewN | apply below_drew1) | exact HB.out)) hb); clear HO193; clear HO196; clear HO200; clear HB; have HO193 := n0_; have HO196 := n1_; have HO200 := n2_; have HO204 := n3_; have HB := n4_; clear n0_ n1_ n2_ n3_ n4_; (try clear hb); (try clear hb2); (try clear hk); (try clear hi); (try clear ho0)))
  (try simp only [Act.put, List.setIfInBounds_toArray, List.set_cons_zero, List.set_cons_succ])
  go_cut [32] (fun v32 wc => ∃ (kq : Nat) (x32_6 : Bool), v32 = .bool x32_6 ∧ Aside0 (stilelaw04_RowApart.j0 kq t191 t194 t197 t201 x32_6 = some r) ∧ Aside0 (kq ≤ k) ∧ Aside0 (Kd.R k40 40 wc w.heap.size (fun k_ => some k_ ≠ ((.slice Ao12 t194.length co12) : Value).ownBlock) (.slice Ao10 t191.length co10) t191) ∧ Aside0 (Kd.R k40 40 wc w.heap.size (fun k_ => some k_ ≠ ((.slice Ao10 t191.length co10) : Value).ownBlock) (.slice Ao12 t194.length co12) t194) ∧ Aside0 (Kd.R (Kd.int .u8) 5 wc w.heap.size (fun k_ => some k_ ≠ (v203 : Value).ownBlock) v199 t197) ∧ Aside0 (Kd.R (Kd.int .u8) 5 wc w.heap.size (fun k_ => some k_ ≠ (v199 : Value).ownBlock) v203 t201) ∧ Aside0 (Below w.heap.size w wc))
  case first =>
    have H := HC7.out
    clear HC7
    by_cases c14 : t198 = 0
    · rw [if_pos c14] at H
      have c14b0 : (t198 == 0) = true := beq_iff_eq.mpr c14
      have c14b1 : (t198 != 0) = false := bne_eq_false_iff_eq.mpr c14
      clear c14
      (first | rw [c14b0] | (simp only [i64_w, i32_w]; rw [c14b0]) | skip)
      have H' := Aside0.mk H
      clear H
      go_wp2
      go_meet
      case rel => exact ⟨_, ((t202 != 0)), (by first | rfl | (simp; done) | (simp [*]; done)), H', ⟨by first | omega | exact Nat.le_refl _⟩, ⟨by (with_reducible repeat (first | apply Kd.R_alloc | apply Kd.R_drewN | apply Kd.R_drew)); exact Kd.R_mono HO193.out (fun _ hk => hk.2)⟩, ⟨by (with_reducible repeat (first | apply Kd.R_alloc | apply Kd.R_drewN | apply Kd.R_drew)); exact Kd.R_mono HO196.out (fun _ hk => hk.2)⟩, ⟨by (with_reducible repeat (first | apply Kd.R_alloc | apply Kd.R_drewN | apply Kd.R_drew)); exact Kd.R_mono HO200.out (fun _ hk => hk.2)⟩, ⟨by (with_reducible repeat (first | apply Kd.R_alloc | apply Kd.R_drewN | apply Kd.R_drew)); exact Kd.R_mono HO204.out (fun _ hk => hk.2)⟩, ⟨by repeat (first | (with_reducible first | exact HB.out | apply below_alloc | apply pw_below_drewN | apply below_drew1) | exact HB.out)⟩⟩
    · rw [if_neg c14] at H
      have c14b0 : (t198 == 0) = false := beq_eq_false_iff_ne.mpr c14
      have c14b1 : (t198 != 0) = true := bne_iff_ne.mpr c14
      (first | rw [c14b0] | (simp only [i64_w, i32_w]; rw [c14b0]) | skip)
      have H' := Aside0.mk H
      clear H
      go_wp2
      go_meet
      case rel => exact ⟨_, (true), (by first | rfl | (simp; done) | (simp [*]; done)), H', ⟨by first | omega | exact Nat.le_refl _⟩, ⟨by (with_reducible repeat (first | apply Kd.R_alloc | apply Kd.R_drewN | apply Kd.R_drew)); exact Kd.R_mono HO193.out (fun _ hk => hk.2)⟩, ⟨by (with_reducible repeat (first | apply Kd.R_alloc | apply Kd.R_drewN | apply Kd.R_drew)); exact Kd.R_mono HO196.out (fun _ hk => hk.2)⟩, ⟨by (with_reducible repeat (first | apply Kd.R_alloc | apply Kd.R_drewN | apply Kd.R_drew)); exact Kd.R_mono HO200.out (fun _ hk => hk.2)⟩, ⟨by (with_reducible repeat (first | apply Kd.R_alloc | apply Kd.R_drewN | apply Kd.R_drew)); exact Kd.R_mono HO204.out (fun _ hk => hk.2)⟩, ⟨by repeat (first | (with_reducible first | exact HB.out | apply below_alloc | apply pw_below_drewN | apply below_drew1) | exact HB.out)⟩⟩
  case rest =>
    clear HC7
    try clear c1
    try clear p2
    try clear c7
    try clear c8
    try clear c9
    try clear c14
    try clear c14b0
    try clear c14b1
    obtain ⟨kq, x32_6, rfl, HA, HJ6, HO_5, HO_6, HO_7, HO_9, HB⟩ := hcut
    cases kq with
    | zero => exact absurd HA.out (by simp [stilelaw04_RowApart.j0])
    | succ kj6 =>
      have H := HA.out
      clear HA
      simp only [stilelaw04_RowApart.j0] at H
      by_cases c15 : x32_6 = true
      · subst c15
        have H1 : ((stilelaw04_alive.f kj6).bind fun t205 => (some t205)) = some r := by rw [if_pos rfl] at H; exact H
        clear H
        have H := H1
        clear H1
        replace H := Option.bind_eq_some_iff.mp H
        obtain ⟨t205, A160, H⟩ := H
        replace H : (some t205) = some r := H
        have A16 := Aside0.mk A160
        clear A160
        obtain rfl := Option.some.inj H
        go_wp2_with (first | ((with_reducible refine gate_callee (f := 15) rfl ?_); refine goesL_ (some 33) rfl rfl Try.func15 (by kernel_rfl) rfl #[] rfl (by (try simp only [List.map_toArray, List.map_cons, List.map_nil]); first | done | rfl | (simp only [List.length_drop, List.length_take]; rfl)) ?_; (with_reducible refine (stilelaw04_alive.calls kj6  t205 _ A16.out).mono ?_); rintro e w17 ⟨rfl, hb⟩; refine ⟨_, rfl, ?_⟩; have n0_ := Aside0.mk (Kd.R_below (by (with_reducible repeat (first | apply Kd.R_alloc | apply Kd.R_drewN | apply Kd.R_drew)); exact HO_5.out) hb); have n1_ := Aside0.mk (Kd.R_below (by (with_reducible repeat (first | apply Kd.R_alloc | apply Kd.R_drewN | apply Kd.R_drew)); exact HO_6.out) hb); have n2_ := Aside0.mk (Kd.R_below (by (with_reducible repeat (first | apply Kd.R_alloc | apply Kd.R_drewN | apply Kd.R_drew)); exact HO_7.out) hb); have n3_ := Aside0.mk (Kd.R_below (by (with_reducible repeat (first | apply Kd.R_alloc | apply Kd.R_drewN | apply Kd.R_drew)); exact HO_9.out) hb); have n4_ := Aside0.mk (below_step (by repeat (first | (with_reducible first | exact HB.out | apply below_alloc | apply pw_below_drewN | apply below_drew1) | exact HB.out)) hb); clear HO_5; clear HO_6; clear HO_7; clear HO_9; clear HB; have HO_5 := n0_; have HO_6 := n1_; have HO_7 := n2_; have HO_9 := n3_; have HB := n4_; clear n0_ n1_ n2_ n3_ n4_; (try clear hb); (try clear hb2); (try clear hk); (try clear hi)))
        go_ret
        exact ⟨by first | rfl | (simp [errW_none, errW_some] <;> rfl) | (simp [*, errW_none, errW_some] <;> rfl), by repeat (first | (with_reducible first | exact HB.out | apply below_alloc | apply pw_below_drewN | apply below_drew1) | exact HB.out)⟩
      · replace c15 := Bool.eq_false_iff.mpr c15
        subst c15
        have H1 : ((stileref01_SameRow.f kj6 t191 t194).bind fun t206 => ((stileref04_Same.f t197 t201).bind fun t207 => ((stilelaw04_alive.f kj6).bind fun t208 => (if t208 = true then (some (t206 == t207)) else (some false))))) = some r := by rw [if_neg (show ¬ (false = true) by decide)] at H; exact H
        clear H
        have H := H1
        clear H1
        replace H := Option.bind_eq_some_iff.mp H
        obtain ⟨t206, A180, H⟩ := H
        replace H : ((stileref04_Same.f t197 t201).bind fun t207 => ((stilelaw04_alive.f kj6).bind fun t208 => (if t208 = true then (some (t206 == t207)) else (some false)))) = some r := H
        have A18 := Aside0.mk A180
        clear A180
        replace H := Option.bind_eq_some_iff.mp H
        obtain ⟨t207, A190, H⟩ := H
        replace H : ((stilelaw04_alive.f kj6).bind fun t208 => (if t208 = true then (some (t206 == t207)) else (some false))) = some r := H
        have A19 := Aside0.mk A190
        clear A190
        replace H := Option.bind_eq_some_iff.mp H
        obtain ⟨t208, A200, H⟩ := H
        replace H : (if t208 = true then (some (t206 == t207)) else (some false)) = some r := H
        have A20 := Aside0.mk A200
        clear A200
        by_cases c21 : t208 = true
        · subst c21
          have H1 : (some (t206 == t207)) = some r := by rw [if_pos rfl] at H; exact H
          clear H
          have H := H1
          clear H1
          obtain rfl := Option.some.inj H
          go_wp2_with (first | ((with_reducible refine gate_callee (f := 14) rfl ?_); refine goesL_ (some 36) rfl rfl Try.func14 (by kernel_rfl) rfl #[.slice Ao10 t191.length co10, .slice Ao12 t194.length co12] rfl (by (try simp only [List.map_toArray, List.map_cons, List.map_nil]); first | done | rfl | (simp only [List.length_drop, List.length_take]; rfl)) ?_; (with_reducible refine (stileref01_SameRow.calls kj6 _ _ t191 _ _ t194 t206 _ ?side1 ?side2 ?side3 ?side4 A18.out).mono ?_); (case side1 => repeat (first | exact (Kd.R_reads' HO_5.out).2.2 | (with_reducible refine Kd.C_alloc ?_ _) | (with_reducible refine Kd.C_drewN ?_ _) | (with_reducible refine Kd.C_drew ?_))); (case side2 => exact (Kd.R_reads' HO_5.out).2.1); (case side3 => repeat (first | exact (Kd.R_reads' HO_6.out).2.2 | (with_reducible refine Kd.C_alloc ?_ _) | (with_reducible refine Kd.C_drewN ?_ _) | (with_reducible refine Kd.C_drew ?_))); (case side4 => exact (Kd.R_reads' HO_6.out).2.1); rintro e w' ⟨rfl, ⟨nd, rfl⟩⟩; refine ⟨_, rfl, ?_⟩; obtain ⟨Ao22, co22, eo22⟩ := Kd.R_slice HO_7.out; subst eo22; obtain ⟨Ao23, co23, eo23⟩ := Kd.R_slice HO_9.out; subst eo23) | ((with_reducible refine gate_callee (f := 13) rfl ?_); refine goesL_ (some 39) rfl rfl Try.func13 (by kernel_rfl) rfl #[.slice Ao22 t197.length co22, .slice Ao23 t201.length co23] rfl (by (try simp only [List.map_toArray, List.map_cons, List.map_nil]); first | done | rfl | (simp only [List.length_drop, List.length_take]; rfl)) ?_; (with_reducible refine (stileref04_Same.calls _ _ t197 _ _ t201 t207 _ ?side1 ?side2 ?side3 ?side4 A19.out).mono ?_); (case side1 => repeat (first | exact (Kd.R_reads' HO_7.out).2.2 | (with_reducible refine Kd.C_alloc ?_ _) | (with_reducible refine Kd.C_drewN ?_ _) | (with_reducible refine Kd.C_drew ?_))); (case side2 => exact (Kd.R_reads' HO_7.out).2.1); (case side3 => repeat (first | exact (Kd.R_reads' HO_9.out).2.2 | (with_reducible refine Kd.C_alloc ?_ _) | (with_reducible refine Kd.C_drewN ?_ _) | (with_reducible refine Kd.C_drew ?_))); (case side4 => exact (Kd.R_reads' HO_9.out).2.1); rintro e w' ⟨rfl, ⟨nd, rfl⟩⟩; refine ⟨_, rfl, ?_⟩) | ((with_reducible refine gate_callee (f := 15) rfl ?_); refine goesL_ (some 40) rfl rfl Try.func15 (by kernel_rfl) rfl #[] rfl (by (try simp only [List.map_toArray, List.map_cons, List.map_nil]); first | done | rfl | (simp only [List.length_drop, List.length_take]; rfl)) ?_; (with_reducible refine (stilelaw04_alive.calls kj6  true _ A20.out).mono ?_); rintro e w24 ⟨rfl, hb⟩; refine ⟨_, rfl, ?_⟩; have n0_ := Aside0.mk (Kd.R_below (by (with_reducible repeat (first | apply Kd.R_alloc | apply Kd.R_drewN | apply Kd.R_drew)); exact HO_5.out) hb); have n1_ := Aside0.mk (Kd.R_below (by (with_reducible repeat (first | apply Kd.R_alloc | apply Kd.R_drewN | apply Kd.R_drew)); exact HO_6.out) hb); have n2_ := Aside0.mk (Kd.R_below (by (with_reducible repeat (first | apply Kd.R_alloc | apply Kd.R_drewN | apply Kd.R_drew)); exact HO_7.out) hb); have n3_ := Aside0.mk (Kd.R_below (by (with_reducible repeat (first | apply Kd.R_alloc | apply Kd.R_drewN | apply Kd.R_drew)); exact HO_9.out) hb); have n4_ := Aside0.mk (below_step (by repeat (first | (with_reducible first | exact HB.out | apply below_alloc | apply pw_below_drewN | apply below_drew1) | exact HB.out)) hb); clear HO_5; clear HO_6; clear HO_7; clear HO_9; clear HB; have HO_5 := n0_; have HO_6 := n1_; have HO_7 := n2_; have HO_9 := n3_; have HB := n4_; clear n0_ n1_ n2_ n3_ n4_; (try clear hb); (try clear hb2); (try clear hk); (try clear hi)))
          go_ret
          exact ⟨by first | rfl | (simp [errW_none, errW_some] <;> rfl) | (simp [*, errW_none, errW_some] <;> rfl), by repeat (first | (with_reducible first | exact HB.out | apply below_alloc | apply pw_below_drewN | apply below_drew1) | exact HB.out)⟩
        · replace c21 := Bool.eq_false_iff.mpr c21
          subst c21
          have H1 : (some false) = some r := by rw [if_neg (show ¬ (false = true) by decide)] at H; exact H
          clear H
          have H := H1
          clear H1
          obtain rfl := Option.some.inj H
          go_wp2_with (first | ((with_reducible refine gate_callee (f := 14) rfl ?_); refine goesL_ (some 36) rfl rfl Try.func14 (by kernel_rfl) rfl #[.slice Ao10 t191.length co10, .slice Ao12 t194.length co12] rfl (by (try simp only [List.map_toArray, List.map_cons, List.map_nil]); first | done | rfl | (simp only [List.length_drop, List.length_take]; rfl)) ?_; (with_reducible refine (stileref01_SameRow.calls kj6 _ _ t191 _ _ t194 t206 _ ?side1 ?side2 ?side3 ?side4 A18.out).mono ?_); (case side1 => repeat (first | exact (Kd.R_reads' HO_5.out).2.2 | (with_reducible refine Kd.C_alloc ?_ _) | (with_reducible refine Kd.C_drewN ?_ _) | (with_reducible refine Kd.C_drew ?_))); (case side2 => exact (Kd.R_reads' HO_5.out).2.1); (case side3 => repeat (first | exact (Kd.R_reads' HO_6.out).2.2 | (with_reducible refine Kd.C_alloc ?_ _) | (with_reducible refine Kd.C_drewN ?_ _) | (with_reducible refine Kd.C_drew ?_))); (case side4 => exact (Kd.R_reads' HO_6.out).2.1); rintro e w' ⟨rfl, ⟨nd, rfl⟩⟩; refine ⟨_, rfl, ?_⟩; obtain ⟨Ao25, co25, eo25⟩ := Kd.R_slice HO_7.out; subst eo25; obtain ⟨Ao26, co26, eo26⟩ := Kd.R_slice HO_9.out; subst eo26) | ((with_reducible refine gate_callee (f := 13) rfl ?_); refine goesL_ (some 39) rfl rfl Try.func13 (by kernel_rfl) rfl #[.slice Ao25 t197.length co25, .slice Ao26 t201.length co26] rfl (by (try simp only [List.map_toArray, List.map_cons, List.map_nil]); first | done | rfl | (simp only [List.length_drop, List.length_take]; rfl)) ?_; (with_reducible refine (stileref04_Same.calls _ _ t197 _ _ t201 t207 _ ?side1 ?side2 ?side3 ?side4 A19.out).mono ?_); (case side1 => repeat (first | exact (Kd.R_reads' HO_7.out).2.2 | (with_reducible refine Kd.C_alloc ?_ _) | (with_reducible refine Kd.C_drewN ?_ _) | (with_reducible refine Kd.C_drew ?_))); (case side2 => exact (Kd.R_reads' HO_7.out).2.1); (case side3 => repeat (first | exact (Kd.R_reads' HO_9.out).2.2 | (with_reducible refine Kd.C_alloc ?_ _) | (with_reducible refine Kd.C_drewN ?_ _) | (with_reducible refine Kd.C_drew ?_))); (case side4 => exact (Kd.R_reads' HO_9.out).2.1); rintro e w' ⟨rfl, ⟨nd, rfl⟩⟩; refine ⟨_, rfl, ?_⟩) | ((with_reducible refine gate_callee (f := 15) rfl ?_); refine goesL_ (some 40) rfl rfl Try.func15 (by kernel_rfl) rfl #[] rfl (by (try simp only [List.map_toArray, List.map_cons, List.map_nil]); first | done | rfl | (simp only [List.length_drop, List.length_take]; rfl)) ?_; (with_reducible refine (stilelaw04_alive.calls kj6  false _ A20.out).mono ?_); rintro e w27 ⟨rfl, hb⟩; refine ⟨_, rfl, ?_⟩; have n0_ := Aside0.mk (Kd.R_below (by (with_reducible repeat (first | apply Kd.R_alloc | apply Kd.R_drewN | apply Kd.R_drew)); exact HO_5.out) hb); have n1_ := Aside0.mk (Kd.R_below (by (with_reducible repeat (first | apply Kd.R_alloc | apply Kd.R_drewN | apply Kd.R_drew)); exact HO_6.out) hb); have n2_ := Aside0.mk (Kd.R_below (by (with_reducible repeat (first | apply Kd.R_alloc | apply Kd.R_drewN | apply Kd.R_drew)); exact HO_7.out) hb); have n3_ := Aside0.mk (Kd.R_below (by (with_reducible repeat (first | apply Kd.R_alloc | apply Kd.R_drewN | apply Kd.R_drew)); exact HO_9.out) hb); have n4_ := Aside0.mk (below_step (by repeat (first | (with_reducible first | exact HB.out | apply below_alloc | apply pw_below_drewN | apply below_drew1) | exact HB.out)) hb); clear HO_5; clear HO_6; clear HO_7; clear HO_9; clear HB; have HO_5 := n0_; have HO_6 := n1_; have HO_7 := n2_; have HO_9 := n3_; have HB := n4_; clear n0_ n1_ n2_ n3_ n4_; (try clear hb); (try clear hb2); (try clear hk); (try clear hi)))
          go_ret
          exact ⟨by first | rfl | (simp [errW_none, errW_some] <;> rfl) | (simp [*, errW_none, errW_some] <;> rfl), by repeat (first | (with_reducible first | exact HB.out | apply below_alloc | apply pw_below_drewN | apply below_drew1) | exact HB.out)⟩

end Go.Proofs.Ythcoiomnlcagcaa.PRZ

namespace Go.Proofs.Ythcoiomnlcagcaa
open Go.RowKit Go.Proofs.YthcoiomnlcagcaaW.PrintWords Go.Proofs.YthcoiomnlcagcaaW.PrintLast Go.Proofs.YthcoiomnlcagcaaW.PrintMore Go.Proofs.Ythcoiomnlcagcaa.PRZ
set_option linter.unusedVariables false
set_option linter.unusedSimpArgs false
namespace Rl
theorem s40_ext {x y : S40} (h0 : x.f0 = y.f0) (h1 : x.f1 = y.f1) (h2 : x.f2 = y.f2) (h3 : x.f3 = y.f3) : x = y := by
  cases x; cases y; simp_all
theorem list_eq_iff (s t : ByteArray) : (s.toList == t.toList) = true ↔ s = t := by
  rw [beq_iff_eq, ByteArray.toList_eq, ByteArray.toList_eq]
  constructor
  · intro h
    obtain ⟨⟨a⟩⟩ := s
    obtain ⟨⟨b⟩⟩ := t
    simp only at h
    rw [h]
  · rintro rfl
    rfl
theorem differ_iff (a b : S40) : (!(a.f0 == b.f0) || (!(a.f1 == b.f1) || (!(a.f2.toList == b.f2.toList) || (!(a.f3 == b.f3))))) = true ↔ a ≠ b := by
  have h2 := list_eq_iff a.f2 b.f2
  constructor
  · rintro h rfl
    simp at h
  · intro h
    by_cases q : a.f0 = b.f0 ∧ a.f1 = b.f1 ∧ a.f2 = b.f2 ∧ a.f3 = b.f3
    · exact absurd (s40_ext q.1 q.2.1 q.2.2.1 q.2.2.2) h
    · cases e2 : (a.f2.toList == b.f2.toList) with
      | false => simp
      | true =>
        have := h2.1 e2
        simp only [Bool.or_eq_true, Bool.not_eq_true', beq_eq_false_iff_ne]
        by_cases q0 : a.f0 = b.f0
        · by_cases q1 : a.f1 = b.f1
          · by_cases q3 : a.f3 = b.f3
            · exact absurd ⟨q0, q1, this, q3⟩ q
            · exact .inr (.inr (.inr q3))
          · exact .inr (.inl q1)
        · exact .inl q0
theorem same_at (x y : List S40) (hlen : x.length = y.length) (hx : x.length ≤ 40) : ∀ (m i : Nat), i + m = x.length → ∃ k b, stileref01_SameRow.l0 k x y (i : Int) = some b ∧ (b = true ↔ x.drop i = y.drop i) := by
  intro m
  induction m with
  | zero =>
    intro i hi
    refine ⟨1, true, ?_, ?_⟩
    · unfold stileref01_SameRow.l0
      rw [if_neg (by omega)]
    · rw [List.drop_of_length_le (by omega), List.drop_of_length_le (by omega)]
      simp
  | succ m ih =>
    intro i hi
    have hix : i < x.length := by omega
    have hiy : i < y.length := by omega
    obtain ⟨k, b, hk, hb⟩ := ih (i + 1) (by omega)
    rw [List.drop_eq_getElem_cons hix, List.drop_eq_getElem_cons hiy]
    by_cases he : x[i] = y[i]
    · refine ⟨k + 1, b, ?_, ?_⟩
      · unfold stileref01_SameRow.l0
        rw [if_pos (by omega), if_pos (by omega), if_pos (by omega), rd40 x i hix, rd40 y i hiy, if_neg (fun q => (differ_iff _ _).1 q he), w1 i (by omega)]
        exact hk
      · rw [hb, he, List.cons.injEq]
        exact ⟨fun q => ⟨rfl, q⟩, fun q => q.2⟩
    · refine ⟨1, false, ?_, ?_⟩
      · unfold stileref01_SameRow.l0
        rw [if_pos (by omega), if_pos (by omega), if_pos (by omega), rd40 x i hix, rd40 y i hiy, if_pos ((differ_iff _ _).2 he)]
      · exact ⟨fun q => (by cases q), fun q => absurd (List.cons.inj q).1 he⟩
theorem sameRow_f (x y : List S40) (hx : x.length ≤ 40) : ∃ k b, stileref01_SameRow.f k x y = some b ∧ (b = true ↔ x = y) := by
  unfold stileref01_SameRow.f
  by_cases h : x.length = y.length
  · obtain ⟨k, b, hk, hb⟩ := same_at x y h hx x.length 0 (by omega)
    exact ⟨k, b, by rw [if_pos (by omega)]; exact hk, by simpa using hb⟩
  · refine ⟨0, false, by rw [if_neg (by omega)], ?_⟩
    simp
    rintro rfl
    exact h rfl
def Byte (l : List Int) : Prop := ∀ n ∈ l, 0 ≤ n ∧ n < 256
theorem back_ {l : List Int} (h : Byte l) : bytesOf (strOfNums l) = l := by
  unfold bytesOf
  rw [strOfNums_data, List.map_map]
  conv => rhs; rw [← List.map_id l]
  refine List.map_congr_left fun n hn => ?_
  obtain ⟨h0, h1⟩ := h n hn
  simp only [Function.comp, id]
  rw [UInt8.toNat_ofNat']
  omega
theorem same_f (p q : List Int) (hp : Byte p) (hq : Byte q) : ∃ b, stileref04_Same.f p q = some b ∧ (b = true ↔ p = q) := by
  refine ⟨_, rfl, ?_⟩
  rw [list_eq_iff]
  constructor
  · intro h
    rw [← back_ hp, ← back_ hq, h]
  · rintro rfl
    rfl
theorem leL_byte (a : Int) (n : Nat) : Byte (Rw.leL a n) := by
  intro x hx
  obtain ⟨i, _, rfl⟩ := List.mem_map.1 hx
  unfold Rw.leB
  exact ⟨Int.emod_nonneg _ (by decide), Int.emod_lt_of_pos _ (by decide)⟩
theorem bytesOf_byte (s : ByteArray) : Byte (bytesOf s) := by
  intro x hx
  obtain ⟨b, _, rfl⟩ := List.mem_map.1 hx
  have := b.toNat_lt
  omega
theorem Byte.append {a b : List Int} (ha : Byte a) (hb : Byte b) : Byte (a ++ b) := by
  intro x hx
  rcases List.mem_append.1 hx with h | h
  · exact ha x h
  · exact hb x h
theorem Byte.one {a : Int} (h0 : 0 ≤ a) (h1 : a < 256) : Byte [a] := by
  intro x hx
  obtain rfl := List.mem_singleton.1 hx
  exact ⟨h0, h1⟩
theorem bytesV_byte (x : S40) : Byte (bytesV x) := by
  unfold bytesV
  split
  · exact Byte.one (by decide) (by decide)
  split
  · exact (Byte.one (by decide) (by decide)).append (leL_byte _ _)
  split
  · exact ((Byte.one (by decide) (by decide)).append (leL_byte _ _)).append (bytesOf_byte _)
  split
  · exact Byte.one (by decide) (by decide)
  · exact Byte.one (by decide) (by decide)
theorem bytesR_byte (l : List S40) : Byte (bytesR l) := by
  refine (Byte.one (Int.emod_nonneg _ (by decide)) (Int.emod_lt_of_pos _ (by decide))).append ?_
  intro n hn
  obtain ⟨x, _, hx⟩ := List.mem_flatMap.1 hn
  exact bytesV_byte x n hx
theorem leL_2 {a b : Int} (h : Rw.leL a 2 = Rw.leL b 2) (ha : 0 ≤ a) (hb : 0 ≤ b) (ha' : a < 65536) (hb' : b < 65536) : a = b := by
  simp [Rw.leL, Rw.leB, List.range_succ] at h
  omega
theorem leL_8 {a b : Int} (h : Rw.leL a 8 = Rw.leL b 8) (ha : 0 ≤ a) (hb : 0 ≤ b) (ha' : a < 18446744073709551616) (hb' : b < 18446744073709551616) : a = b := by
  simp [Rw.leL, Rw.leB, List.range_succ] at h
  omega
theorem u64_inj {a b : Int} (h : IntKind.u64.wrap a = IntKind.u64.wrap b) (ha : -9223372036854775808 ≤ a ∧ a ≤ 9223372036854775807) (hb : -9223372036854775808 ≤ b ∧ b ≤ 9223372036854775807) : a = b := by
  simp [IntKind.wrap, IntKind.bits, IntKind.signed] at h
  omega
theorem bytesOf_inj {s t : ByteArray} (h : bytesOf s = bytesOf t) : s = t := by
  have hs : strOfNums (bytesOf s) = s := by
    obtain ⟨⟨a⟩⟩ := s
    simp [strOfNums, bytesOf]
    conv => rhs; rw [← List.map_id a]
    exact List.map_congr_left fun b _ => by simp
  have ht : strOfNums (bytesOf t) = t := by
    obtain ⟨⟨a⟩⟩ := t
    simp [strOfNums, bytesOf]
    conv => rhs; rw [← List.map_id a]
    exact List.map_congr_left fun b _ => by simp
  rw [← hs, ← ht, h]
/-- what a value of a row is, with its number's range and its text's length -/
def Fine (x : S40) : Prop := Ok x ∧ big x = false ∧ -9223372036854775808 ≤ x.f1 ∧ x.f1 ≤ 9223372036854775807
theorem hd (x : S40) (h : Ok x) : ∃ t, bytesV x = (if x.f0 = 3 then (if x.f3 = true then 4 else 3) else x.f0) :: t := by
  rcases h with ⟨e0, _⟩ | ⟨e0, _⟩ | ⟨e0, _⟩ | ⟨e0, _⟩
  · exact ⟨[], by simp [bytesV, e0]⟩
  · exact ⟨Rw.leL (IntKind.u64.wrap x.f1) 8, by simp [bytesV, e0]⟩
  · exact ⟨Rw.leL (IntKind.u64.wrap (x.f2.size : Int)) 2 ++ bytesOf x.f2, by simp [bytesV, e0]⟩
  · cases h3 : x.f3
    · exact ⟨[], by simp [bytesV, e0, h3]⟩
    · exact ⟨[], by simp [bytesV, e0, h3]⟩
theorem kinds (x : S40) (h : Ok x) : x.f0 = 0 ∨ x.f0 = 1 ∨ x.f0 = 2 ∨ x.f0 = 3 := by
  rcases h with ⟨e0, _⟩ | ⟨e0, _⟩ | ⟨e0, _⟩ | ⟨e0, _⟩ <;> simp [e0]
theorem kind_eq {x y : S40} {r s : List Int} (ox : Ok x) (oy : Ok y) (h : bytesV x ++ r = bytesV y ++ s) : x.f0 = y.f0 := by
  obtain ⟨t, ht⟩ := hd x ox
  obtain ⟨u, hu⟩ := hd y oy
  rw [ht, hu, List.cons_append, List.cons_append] at h
  have hc := (List.cons.inj h).1
  have kx := kinds x ox
  have ky := kinds y oy
  repeat' split at hc
  all_goals omega
theorem val_apart {x y : S40} {r s : List Int} (hx : Fine x) (hy : Fine y) (h : bytesV x ++ r = bytesV y ++ s) : x = y ∧ r = s := by
  obtain ⟨ox, bx, nx⟩ := hx
  obtain ⟨oy, by_, ny⟩ := hy
  have hk := kind_eq ox oy h
  rcases ox with ⟨e0, e1, e2, e3⟩ | ⟨e0, e2, e3⟩ | ⟨e0, e1, e3⟩ | ⟨e0, e1, e2⟩ <;> rcases oy with ⟨g0, g1, g2, g3⟩ | ⟨g0, g2, g3⟩ | ⟨g0, g1, g3⟩ | ⟨g0, g1, g2⟩
  all_goals try (exfalso; omega)
  · simp [bytesV, e0, g0] at h
    exact ⟨s40_ext (by rw [e0, g0]) (by rw [e1, g1]) (by rw [e2, g2]) (by rw [e3, g3]), h⟩
  · simp [bytesV, e0, g0] at h
    obtain ⟨h1, h2⟩ := List.append_inj h (by rw [leL_len, leL_len])
    have u1 := u64_lo x.f1
    have u2 := u64_lo y.f1
    exact ⟨s40_ext (by rw [e0, g0]) (u64_inj (leL_8 h1 u1.1 u2.1 u1.2 u2.2) nx ny) (by rw [e2, g2]) (by rw [e3, g3]), h2⟩
  · simp [bytesV, e0, g0] at h
    simp [big, e0] at bx
    simp [big, g0] at by_
    obtain ⟨h1, h2⟩ := List.append_inj h (by rw [leL_len, leL_len])
    have u1 := u64_lo (x.f2.size : Int)
    have u2 := u64_lo (y.f2.size : Int)
    have w1 : IntKind.u64.wrap (x.f2.size : Int) = x.f2.size := by simp [IntKind.wrap, IntKind.bits, IntKind.signed]; omega
    have w2 : IntKind.u64.wrap (y.f2.size : Int) = y.f2.size := by simp [IntKind.wrap, IntKind.bits, IntKind.signed]; omega
    have hs := leL_2 h1 u1.1 u2.1 (by rw [w1]; omega) (by rw [w2]; omega)
    rw [w1, w2] at hs
    obtain ⟨h3, h4⟩ := List.append_inj h2 (by rw [bytesOf_len, bytesOf_len]; omega)
    exact ⟨s40_ext (by rw [e0, g0]) (by rw [e1, g1]) (bytesOf_inj h3) (by rw [e3, g3]), h4⟩
  · have hb : x.f3 = y.f3 ∧ r = s := by
      revert h
      cases hx3 : x.f3 <;> cases hy3 : y.f3 <;> simp [bytesV, e0, g0, hx3, hy3]
    exact ⟨s40_ext (by rw [e0, g0]) (by rw [e1, g1]) (by rw [e2, g2]) hb.1, hb.2⟩
theorem vals_apart : ∀ {x y : List S40}, (∀ v ∈ x, Fine v) → (∀ v ∈ y, Fine v) → x.length = y.length → x.flatMap bytesV = y.flatMap bytesV → x = y
  | [], [], _, _, _, _ => rfl
  | [], _ :: _, _, _, h, _ => by simp at h
  | _ :: _, [], _, _, h, _ => by simp at h
  | a :: x, b :: y, ha, hb, hl, h => by
    rw [List.flatMap_cons, List.flatMap_cons] at h
    obtain ⟨rfl, h2⟩ := val_apart (ha a (List.mem_cons_self ..)) (hb b (List.mem_cons_self ..)) h
    rw [vals_apart (fun v hv => ha v (List.mem_cons_of_mem _ hv)) (fun v hv => hb v (List.mem_cons_of_mem _ hv)) (by simpa using hl) h2]
theorem rows_apart {x y : List S40} (hx : ∀ v ∈ x, Fine v) (hy : ∀ v ∈ y, Fine v) (lx : x.length ≤ 12) (ly : y.length ≤ 12) : bytesR x = bytesR y ↔ x = y := by
  constructor
  · intro h
    unfold bytesR at h
    simp only [List.singleton_append, List.cons.injEq] at h
    exact vals_apart hx hy (by omega) h.2
  · rintro rfl
    rfl
end Rl
end Go.Proofs.Ythcoiomnlcagcaa

namespace Go.Proofs.Ythcoiomnlcagcaa
open Go.RowKit Go.Proofs.YthcoiomnlcagcaaW.PrintWords Go.Proofs.YthcoiomnlcagcaaW.PrintLast Go.Proofs.YthcoiomnlcagcaaW.PrintMore Go.Proofs.Ythcoiomnlcagcaa.PRZ
set_option linter.unusedVariables false
set_option linter.unusedSimpArgs false
namespace Rl
theorem row_num (l : List S44) (h : ∀ x ∈ l, -9223372036854775808 ≤ x.f1 ∧ x.f1 ≤ 9223372036854775807) : ∀ x ∈ rowOf l, -9223372036854775808 ≤ x.f1 ∧ x.f1 ≤ 9223372036854775807 := by
  intro x hx
  obtain ⟨y, hy, rfl⟩ := List.mem_map.1 hx
  have hy' := h y (List.mem_of_mem_take hy)
  unfold val
  by_cases h1 : pk y.f0 = 1
  · simpa [h1] using hy'
  by_cases h2 : pk y.f0 = 2
  · simp [h1, h2]
  by_cases h3 : pk y.f0 = 3
  · simp [h1, h2, h3]
  simp [h1, h2, h3]
theorem row_fine (l : List S44) (h : ∀ x ∈ l, -9223372036854775808 ≤ x.f1 ∧ x.f1 ≤ 9223372036854775807) (hl : long (rowOf l) = false) : (∀ v ∈ rowOf l, Fine v) ∧ (rowOf l).length ≤ 12 := by
  simp only [long, Bool.or_eq_false_iff, decide_eq_false_iff_not] at hl
  refine ⟨fun v hv => ⟨row_ok l v hv, ?_, row_num l h v hv⟩, by omega⟩
  cases hq : big v with
  | false => rfl
  | true => exact absurd (List.any_eq_true.2 ⟨v, hv, hq⟩) (by rw [hl.2]; simp)
theorem apart (l m : List S44) (hl : ∀ x ∈ l, -9223372036854775808 ≤ x.f1 ∧ x.f1 ≤ 9223372036854775807) (hm : ∀ x ∈ m, -9223372036854775808 ≤ x.f1 ∧ x.f1 ≤ 9223372036854775807) : ∃ k, stilelaw04_RowApart.f k l m = some true := by
  obtain ⟨k1, h1⟩ := row_f l
  obtain ⟨k2, h2⟩ := row_f m
  obtain ⟨k3, h3⟩ := encode_f (rowOf l) (row_ok l) (row_len l)
  obtain ⟨k4, h4⟩ := encode_f (rowOf m) (row_ok m) (row_len m)
  have dead : ∀ (p q : List Int), ∀ k, 41 ≤ k → stilelaw04_RowApart.j0 k (rowOf l) (rowOf m) p q true = some true := by
    intro p q k hk
    obtain ⟨j, rfl⟩ : ∃ j, k = j + 1 := ⟨k - 1, by omega⟩
    unfold stilelaw04_RowApart.j0
    dsimp only
    rw [if_pos rfl, up (g := fun k => stilelaw04_alive.f k) stilelaw04_alive.mono alive_ok j (by omega)]
    rfl
  have hK : ∃ K, ∀ k, K ≤ k → (if (if long (rowOf l) then (([], 42) : List Int × Int) else (bytesR (rowOf l), 0)).2 = 0 then (stilelaw04_RowApart.j0 k (rowOf l) (rowOf m) (if long (rowOf l) then (([], 42) : List Int × Int) else (bytesR (rowOf l), 0)).1 (if long (rowOf m) then (([], 42) : List Int × Int) else (bytesR (rowOf m), 0)).1 ((if long (rowOf m) then (([], 42) : List Int × Int) else (bytesR (rowOf m), 0)).2 != 0)) else (stilelaw04_RowApart.j0 k (rowOf l) (rowOf m) (if long (rowOf l) then (([], 42) : List Int × Int) else (bytesR (rowOf l), 0)).1 (if long (rowOf m) then (([], 42) : List Int × Int) else (bytesR (rowOf m), 0)).1 true)) = some true := by
    cases c1 : long (rowOf l) with
    | true =>
      refine ⟨41, fun k hk => ?_⟩
      simp only [if_true]
      rw [if_neg (by decide)]
      exact dead _ _ k hk
    | false =>
      cases c2 : long (rowOf m) with
      | true =>
        refine ⟨41, fun k hk => ?_⟩
        simp only [if_true, Bool.false_eq_true, if_false]
        exact dead _ _ k hk
      | false =>
        obtain ⟨fx, lx⟩ := row_fine l hl c1
        obtain ⟨fy, ly⟩ := row_fine m hm c2
        obtain ⟨k5, b, h5, hb⟩ := sameRow_f (rowOf l) (rowOf m) (row_len l)
        obtain ⟨b2, h6, hb2⟩ := same_f (bytesR (rowOf l)) (bytesR (rowOf m)) (bytesR_byte _) (bytesR_byte _)
        refine ⟨k5 + 42, fun k hk => ?_⟩
        obtain ⟨j, rfl⟩ : ∃ j, k = j + 1 := ⟨k - 1, by omega⟩
        simp only [if_true, Bool.false_eq_true, if_false]
        unfold stilelaw04_RowApart.j0
        dsimp only
        rw [if_neg (by decide), up (g := fun k => stileref01_SameRow.f k (rowOf l) (rowOf m)) (fun k => stileref01_SameRow.mono _ _ _) h5 j (by omega), Option.bind_some, h6, Option.bind_some, up (g := fun k => stilelaw04_alive.f k) stilelaw04_alive.mono alive_ok j (by omega), Option.bind_some, if_pos rfl]
        have hbb : b = b2 := Bool.eq_iff_iff.2 (hb.trans ((rows_apart fx fy lx ly).symm.trans hb2.symm))
        rw [hbb]
        simp
  obtain ⟨K, hK⟩ := hK
  refine ⟨k1 + k2 + k3 + k4 + K, ?_⟩
  unfold stilelaw04_RowApart.f
  rw [up (g := fun k => stilelaw03_Row.f k l) (fun k => stilelaw03_Row.mono _ _) h1 _ (by omega), Option.bind_some, up (g := fun k => stilelaw03_Row.f k m) (fun k => stilelaw03_Row.mono _ _) h2 _ (by omega), Option.bind_some, up (g := fun k => rowcode_Encode.f k (rowOf l)) (fun k => rowcode_Encode.mono _ _) h3 _ (by omega), Option.bind_some, up (g := fun k => rowcode_Encode.f k (rowOf m)) (fun k => rowcode_Encode.mono _ _) h4 _ (by omega), Option.bind_some]
  exact hK _ (by omega)
theorem apart_walk (A0 : Option Addr) (c0 : Nat) (l0 : List (S44)) (A1 : Option Addr) (c1 : Nat) (l1 : List (S44)) (w : World) (hr0 : Kd.C k44 w A0 l0.length l0) (hc0 : l0.length ≤ c0) (hr1 : Kd.C k44 w A1 l1.length l1) (hc1 : l1.length ≤ c1) (h0 : ∀ x ∈ l0, -9223372036854775808 ≤ x.f1 ∧ x.f1 ≤ 9223372036854775807) (h1 : ∀ x ∈ l1, -9223372036854775808 ≤ x.f1 ∧ x.f1 ≤ 9223372036854775807) :
    Calls Try.prog 7 #[.slice A0 l0.length c0, .slice A1 l1.length c1] w fun e w' => e = .returned (.bool true) ∧ Below w.heap.size w w' := by
  obtain ⟨k, hk⟩ := apart l0 l1 h0 h1
  exact stilelaw04_RowApart.calls k A0 c0 l0 A1 c1 l1 true w hr0 hc0 hr1 hc1 hk
end Rl
end Go.Proofs.Ythcoiomnlcagcaa

namespace Go.Proofs.Ythcoiomnlcagcaa
open Go.ChangeShapes Go.WideShapes Go.Deep Go.RowKit Go.Proofs.YthcoiomnlcagcaaW.PrintWords Go.Proofs.Ythcoiomnlcagcaa.PRZ
set_option linter.unusedVariables false
set_option linter.unusedSimpArgs false
namespace Rl
section
variable {H : Type} {enc : TypeId × Value → H} {P : Program} {w : World} {base : Nat} {spare : Nat → Bool} {held : Bool}
theorem open_slice_fields {t e : TypeId} {fs : Array Field} {fuel : Nat} {cs : List Value} {x : DataW H × List MemPlace} (ht : P.underlying t = some (.slice e)) (he : P.underlying e = some (.struct fs))
    (hone : oneCellFields P fs = true) (hC : P.cellsOf e = fs.size) (h : DataW.trod enc P w base spare held fuel t cs = some x) :
    (cs = [.slice none 0 0] ∧ x = (.nil, [])) ∨
    ∃ (a : Addr) (len cap m : Nat) (D : Nat → DataW H) (Pl : Nat → List MemPlace), cs = [.slice (some a) len cap] ∧ base ≤ a.block ∧ len ≤ cap ∧ cap ≤ maxLen ∧ m = (if spare a.block then cap else len) ∧
      x = (.slice ((List.range len).map D) ((List.range (m - len)).map fun j => D (len + j)), MemPlace.row a (m * fs.size) ++ (List.range m).flatMap Pl) ∧
      ∀ i, i < m → ∃ (ys : List (DataW H × List MemPlace)) (n : Nat), D i = .agg (ys.map (·.1)) ∧ Pl i = ys.flatMap (·.2) ∧ ys.length = fs.size ∧
        ∀ (j : Nat) (f : Field), fs[j]? = some f → ∃ (v : Value) (y : DataW H × List MemPlace), w.cell? (a.add (i * fs.size + j)) = some v ∧ ys[j]? = some y ∧ DataW.trod enc P w base spare held n f.type [v] = some y := by
  rcases open_slice ht h with h0 | ⟨a, len, cap, m, n, D, Pl, hcs, hb, hl, hm, hmm, hx, hi⟩
  · exact .inl h0
  · refine .inr ⟨a, len, cap, m, D, Pl, hcs, hb, hl, hm, hmm, by rw [hC] at hx; exact hx, fun i him => ?_⟩
    obtain ⟨cs', hc, ht'⟩ := hi i him
    rw [hC] at hc
    obtain ⟨ys, n', hn', hy, hlen, hyl, hf⟩ := DataW.trod_struct he ht'
    obtain ⟨_, hcl, hat⟩ := World.cells?_some hc
    simp only [Prod.mk.injEq] at hy
    refine ⟨ys, n', hy.1, hy.2, hyl, fun j f hj => ?_⟩
    obtain ⟨ho, hk⟩ := hone_of hone j f hj
    have hjl : j < fs.size := (Array.getElem?_eq_some_iff.1 hj).1
    have hcell := hat j hjl
    have hv : cs'[j]? = some (cs'[j]'(by omega)) := List.getElem?_eq_getElem (by omega)
    have h1 := hf j f hj
    rw [ho, hk] at h1
    have hone' : (cs'.drop j).take 1 = [cs'[j]'(by omega)] := by
      rw [List.drop_eq_getElem_cons (by omega)]
      rfl
    rw [hone'] at h1
    have hys : ys[j]? = some (ys[j]'(by omega)) := List.getElem?_eq_getElem (by omega)
    refine ⟨_, _, ?_, hys, h1.trans hys⟩
    rw [← Go.Deep.add_add, hcell, hv]
end
theorem weightsAll_mem {H : Type} {P : Program} {t : TypeId} {n : Nat} {d : DataW H} : ∀ {ds : List (DataW H)}, d ∈ ds → n ∈ d.weights P t → n ∈ DataW.weightsAll P t ds
  | d0 :: ds, hd, hn => by
    simp only [DataW.weightsAll, List.mem_append]
    rcases List.mem_cons.1 hd with rfl | hd
    · exact .inl hn
    · exact .inr (weightsAll_mem hd hn)
theorem opens {H : Type} {enc : TypeId × Value → H} {w : World} {base b0 : Nat} {spare : Nat → Bool} {held : Bool} {r : Reach} {v : Value} {d : DataW H} {p : List MemPlace} (hv : Value.okWide Try.prog w r b0 22 v) (h : DataW.Trod enc Try.prog w base spare held 22 v d p) (hsz : ∀ n ∈ d.weights Try.prog 22, n ≤ 140737488351232) :
    ∃ (A : Option Addr) (c : Nat) (l : List S44), v = .slice A l.length c ∧ l.length ≤ c ∧ Kd.C k44 w A l.length l ∧ (∀ x ∈ l, x.f2.size ≤ 140737488351232) ∧ ∀ x ∈ l, -9223372036854775808 ≤ x.f1 ∧ x.f1 ≤ 9223372036854775807 := by
  obtain ⟨a, len, cap, rfl⟩ := okWide_slice Try.underlying22 hv
  obtain ⟨fuel, hf⟩ := h
  rcases open_slice_fields Try.underlying22 Try.underlying44 (by kernel_rfl) (by kernel_rfl) hf with ⟨hc, hx⟩ | ⟨a', len', cap', m, D, Pl, hc, hb, hl, hm, hmm, hx, hi⟩
  · simp [Value.cells] at hc
    obtain ⟨rfl, rfl, rfl⟩ := hc
    exact ⟨none, 0, [], rfl, Nat.le_refl _, ⟨rfl, by decide, fun q => absurd q (by simp)⟩, by simp, by simp⟩
  · simp [Value.cells] at hc
    obtain ⟨rfl, rfl, rfl⟩ := hc
    simp only [Prod.mk.injEq] at hx
    obtain ⟨rfl, -⟩ := hx
    have hex : ∀ i, i < len → ∃ x : S44, (w.cell? (a'.add (i * 4)) = some (.int .i64 x.f0) ∧ w.cell? (a'.add (i * 4 + 1)) = some (.int .i64 x.f1) ∧ w.cell? (a'.add (i * 4 + 2)) = some (.string x.f2) ∧ w.cell? (a'.add (i * 4 + 3)) = some (.bool x.f3)) ∧ x.f2.size ≤ 140737488351232 ∧ -9223372036854775808 ≤ x.f1 ∧ x.f1 ≤ 9223372036854775807 := by
      intro i hil
      obtain ⟨ys, n, hD, hP, hyl, hfl⟩ := hi i (by rw [hmm]; split <;> omega)
      obtain ⟨v0, y0, c0, g0, t0⟩ := hfl 0 _ rfl
      obtain ⟨v1, y1, c1, g1, t1⟩ := hfl 1 _ rfl
      obtain ⟨v2, y2, c2, g2, t2⟩ := hfl 2 _ rfl
      obtain ⟨v3, y3, c3, g3, t3⟩ := hfl 3 _ rfl
      obtain ⟨s0, e0, z0, b0⟩ := DataW.trod_int Try.underlying3 t0
      obtain ⟨s1, e1, z1, b1⟩ := DataW.trod_int Try.underlying2 t1
      obtain ⟨s2, e2, z2, b2⟩ := DataW.trod_string Try.underlying9 t2
      obtain ⟨s3, e3, z3⟩ := DataW.trod_bool Try.underlying4 t3
      simp only [List.cons.injEq, and_true] at e0 e1 e2 e3
      subst e0 e1 e2 e3
      refine ⟨⟨s0, s1, s2, s3⟩, ⟨c0, c1, c2, c3⟩, ?_, bounds_i64 b1⟩
      have hw : s2.data.toList.length ∈ (D i).weights Try.prog 44 := by
        rw [hD]
        simp only [DataW.weights, Try.underlying44]
        refine DataW.weights_mem_each (j := 2) (t := 9) (d := y2.1) rfl (by rw [List.getElem?_map, g2]; rfl) _ ?_
        rw [z2]
        simp [DataW.weights]
      have := hsz s2.data.toList.length (by
        simp only [DataW.weights, Try.underlying22]
        exact List.mem_cons_of_mem _ (List.mem_append_left _ (weightsAll_mem (List.mem_map.2 ⟨i, List.mem_range.2 hil, rfl⟩) hw)))
      rw [Array.length_toList] at this
      exact this
    let g : Nat → S44 := fun i => if q : i < len then (hex i q).choose else z44
    have hg : ∀ i, i < len → (w.cell? (a'.add (i * 4)) = some (.int .i64 (g i).f0) ∧ w.cell? (a'.add (i * 4 + 1)) = some (.int .i64 (g i).f1) ∧ w.cell? (a'.add (i * 4 + 2)) = some (.string (g i).f2) ∧ w.cell? (a'.add (i * 4 + 3)) = some (.bool (g i).f3)) ∧ (g i).f2.size ≤ 140737488351232 ∧ -9223372036854775808 ≤ (g i).f1 ∧ (g i).f1 ≤ 9223372036854775807 := by
      intro i q
      show _
      simp only [g, dif_pos q]
      exact (hex i q).choose_spec
    have hlen : ((List.range len).map g).length = len := by simp
    refine ⟨some a', cap, (List.range len).map g, by rw [hlen], by rw [hlen]; exact hl, ⟨rfl, by rw [hlen]; unfold maxLen at hm; omega, fun _ => ⟨a', rfl, fun j x hj => ?_⟩⟩, fun x hx => ?_, fun x hx => ?_⟩
    · obtain ⟨hj', rfl⟩ := List.getElem?_eq_some_iff.1 hj
      have hjl : j < len := by simpa using hj'
      simp only [List.getElem_map, List.getElem_range]
      obtain ⟨⟨q0, q1, q2, q3⟩, _⟩ := hg j hjl
      refine ⟨_, rfl, k44_mk w (g j), fun i u hu => ?_⟩
      match i, hu with
      | 0, hu => obtain rfl := Option.some.inj hu; exact q0
      | 1, hu => obtain rfl := Option.some.inj hu; exact q1
      | 2, hu => obtain rfl := Option.some.inj hu; exact q2
      | 3, hu => obtain rfl := Option.some.inj hu; exact q3
      | i + 4, hu => simp at hu
    · obtain ⟨i, hi', rfl⟩ := List.mem_map.1 hx
      exact (hg i (List.mem_range.1 hi')).2.1
    · obtain ⟨i, hi', rfl⟩ := List.mem_map.1 hx
      exact (hg i (List.mem_range.1 hi')).2.2
end Rl
end Go.Proofs.Ythcoiomnlcagcaa

namespace Go.Proofs.Ythcoiomnlcagcaa.rowApart
open Go.ChangeShapes Go.WideShapes Go.ChangeAt Go.RowKit
set_option linter.unusedVariables false
set_option linter.unusedSimpArgs false
theorem own : ownKnob Try.prog.godebug = none := by kernel_rfl
theorem laidOut : laidOutB Try.prog = true := by kernel_rfl
set_option maxRecDepth 100000 in
theorem lifted (os : Os) (started : os.Started) (H : Type) (enc : TypeId × Value → H) :
    ReturnsInHanded {} Try.checked os 7 .any (Rows.rowApartSpec.pre6 enc Try.prog Try.f7 Rows.rowApartRow.domain false) (Rows.rowApartSpec.post enc Try.prog Try.f7 false true false false) := by
  refine returnsInHanded_of_change_sized (C := Try.checked) own started (by kernel_rfl) Try.func7
    (ChangeSpec.witness6 (enc := enc) (C := Try.checked) false ⟨#[], #[.slice none 0 0, .slice none 0 0], []⟩ 8 (by kernel_rfl) (by kernel_rfl) (by kernel_rfl) (by kernel_rfl)) ?_
  intro W base args ds gs before hval0 hW hcnd hsz0 _
  have hsz : (DataW.weightsEach Try.prog (Try.f7.params.toList ++ Rows.rowApartSpec.plain.varTypes Try.prog) (ds ++ gs)).all (· ≤ reachBytes) = true := hsz0
  have hval : ∀ (j : Nat) t v, Try.f7.params[j]? = some t → args[j]? = some v → Value.okWide Try.prog W .any base t v := hval0
  have hW' := hW
  obtain ⟨p, q, hA0, hV, rfl, hfz, hnd⟩ := hW
  have hA : DataW.TrodAll enc Try.prog W 0 (fun _ => true) true Try.f7.params.toList args.toList ds p := hA0
  rw [Try.params7] at hA hval hsz
  obtain ⟨v0, vs0, d0, ds0, p0, q0, hargs, rfl, rfl, h0, r0⟩ := trodAll_cons hA
  obtain ⟨v1, vs1, d1, ds1, p1, q1, rfl, rfl, rfl, h1, r1⟩ := trodAll_cons r0
  obtain ⟨rfl, rfl, rfl⟩ := trodAll_nil r1
  obtain rfl : args = #[v0, v1] := by cases args; simp_all
  obtain ⟨rfl, rfl⟩ := trodVars_none hV
  have k0 := h0
  have lt0 : ∀ x ∈ p0, x.block < W.heap.size := by obtain ⟨m, hm⟩ := k0; exact DataW.trod_lt m _ _ _ hm
  obtain ⟨A0, c0, l0, rfl, m0, C0, y0, z0⟩ := Rl.opens (hval 0 22 v0 rfl rfl) h0 (fun n hn => Nat.le_trans (of_decide_eq_true (List.all_eq_true.1 hsz _ (DataW.weights_mem_each (j := 0) (t := 22) (d := d0) rfl rfl n hn))) (by decide))
  have k1 := h1
  have lt1 : ∀ x ∈ p1, x.block < W.heap.size := by obtain ⟨m, hm⟩ := k1; exact DataW.trod_lt m _ _ _ hm
  obtain ⟨A1, c1, l1, rfl, m1, C1, y1, z1⟩ := Rl.opens (hval 1 22 v1 rfl rfl) h1 (fun n hn => Nat.le_trans (of_decide_eq_true (List.all_eq_true.1 hsz _ (DataW.weights_mem_each (j := 1) (t := 22) (d := d1) rfl rfl n hn))) (by decide))
  clear hA0 hval0 hsz0 hsz
  refine (Rl.apart_walk A0 c0 l0 A1 c1 l1 W C0 m0 C1 m1 z0 z1).mono fun e W' ⟨he, bel⟩ => ?_
  subst he
  exact ⟨_, rfl, _, _, _, [], _, [], hW', trodAll_mk1 (shut_bool Try.underlying4 _), (trodAll_cons_mk (Below.trod laidOut (by kernel_rfl) (of_decide_eq_true (by kernel_rfl)) k0 bel lt0) (trodAll_cons_mk (Below.trod laidOut (by kernel_rfl) (of_decide_eq_true (by kernel_rfl)) k1 bel lt1) trodAll_mk0)), rfl, bel.frame _, fun h => by cases h⟩
theorem proved : Rows.RowApartSaid :=
  OpenClaim.holds_of_wide 7 Try.f7 rfl rfl rfl rfl rfl rfl rfl ⟨rfl, rfl, rfl, rfl, rfl⟩ rfl rfl rfl rfl rfl (by kernel_rfl) Try.func7 (by kernel_rfl)
    (of_decide_eq_true (by kernel_rfl)) (by unfold Func.isWrapper; first | (rw [if_pos (by decide +kernel)]; kernel_rfl) | (rw [if_neg (by decide +kernel)]; exact ⟨rfl, rfl⟩))
    (fun os started H enc _ => lifted os started H enc)
end Go.Proofs.Ythcoiomnlcagcaa.rowApart
namespace Go.Proofs.Ythcoiomnlcagcaa
/-- THE ROW. -/
theorem rowApart_said : Rows.RowApartSaid := rowApart.proved
#print axioms rowApart_said
end Go.Proofs.Ythcoiomnlcagcaa
