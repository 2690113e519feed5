/-
  Of two values one of three is so: just one of <, =, > is True, and the other three are the ends of these. It is proved for every input; the row lists two package-level tables of Go's package unicode/utf8 (tied to the program's text; one of them is pinned).
-/
import Derived.Test.YtlmkhpgnkpgbdaaDoorXThree1
import Derived.Test.YtlmkhpgnkpgbdaaDoorXThree2
import Derived.Test.YtlmkhpgnkpgbdaaDoorXThree3
namespace Go.Proofs.YtlmkhpgnkpgbdaaDoor.PVALUE
open Go.RowKit Go.Proofs.YtlmkhpgnkpgbdaaDoorW.PrintWords Go.Proofs.YtlmkhpgnkpgbdaaDoorW.PrintLast Go.Proofs.YtlmkhpgnkpgbdaaDoorW.PrintMore
attribute [local go_sem] max2_int min2_int max_two min_two max_three min_three max_four min_four   -- for this text's walks alone
set_option linter.unusedVariables false
set_option linter.unusedSimpArgs false

/-! ### stilelaw01_ValueLogic: function 5 -/
mutual
def stilelaw01_ValueLogic.j0 : Nat → Int → Int → Int → Bool → Option (Bool)
  | 0, _, _, _, _ => none
  | k + 1, x7, x8, x9, x10 => (value_And.f k x7 x8).bind fun t220 => ((value_And.f k x8 x7).bind fun t221 => (if t220 = t221 then ((value_And.f k x8 x9).bind fun t222 => ((value_And.f k x7 t222).bind fun t223 => ((value_And.f k x7 x8).bind fun t224 => ((value_And.f k t224 x9).bind fun t225 => (stilelaw01_ValueLogic.j1 k x7 x8 x9 x10 (t223 == t225)))))) else (stilelaw01_ValueLogic.j1 k x7 x8 x9 x10 false)))
def stilelaw01_ValueLogic.j1 : Nat → Int → Int → Int → Bool → Bool → Option (Bool)
  | 0, _, _, _, _, _ => none
  | k + 1, x7, x8, x9, x10, x11 => (value_Or.f k x8 x9).bind fun t226 => ((value_And.f k x7 t226).bind fun t227 => ((value_And.f k x7 x8).bind fun t228 => ((value_And.f k x7 x9).bind fun t229 => ((value_Or.f k t228 t229).bind fun t230 => (if t227 = t230 then ((value_And.f k x7 x8).bind fun t231 => ((value_Or.f k x7 t231).bind fun t232 => (stilelaw01_ValueLogic.j2 k x7 x10 x11 (t232 == x7)))) else (stilelaw01_ValueLogic.j2 k x7 x10 x11 false))))))
def stilelaw01_ValueLogic.j2 : Nat → Int → Bool → Bool → Bool → Option (Bool)
  | 0, _, _, _, _ => none
  | k + 1, x7, x10, x11, x12 => (stilelaw01_alive.f k).bind fun t233 => (if t233 = true then (if x10 = true then (if x11 = true then (if x12 = true then ((value_And.f k x7 2).bind fun t234 => (if t234 = x7 then ((value_Or.f k x7 0).bind fun t235 => (some (t235 == x7))) else (some false))) else (some false)) else (some false)) else (some false)) else (some false))
end
def stilelaw01_ValueLogic.f (k : Nat) (a0 : Int) (a1 : Int) (a2 : Int) : Option (Bool) := (stilelaw01_pick.f a0 3).bind fun t210 => ((stilelaw01_pick.f a1 3).bind fun t211 => ((stilelaw01_pick.f a2 3).bind fun t212 => ((value_And.f k t210 t211).bind fun t213 => ((value_Not.f k t213).bind fun t214 => ((value_Not.f k t210).bind fun t215 => ((value_Not.f k t211).bind fun t216 => ((value_Or.f k t215 t216).bind fun t217 => (if t214 = t217 then ((value_Not.f k t210).bind fun t218 => ((value_Not.f k t218).bind fun t219 => (stilelaw01_ValueLogic.j0 k t210 t211 t212 (t219 == t210)))) else (stilelaw01_ValueLogic.j0 k t210 t211 t212 false)))))))))
theorem stilelaw01_ValueLogic.mono_l : ∀ k, (∀ y0 y1 y2 y3, LeO (stilelaw01_ValueLogic.j0 k y0 y1 y2 y3) (stilelaw01_ValueLogic.j0 (k + 1) y0 y1 y2 y3)) ∧ (∀ y0 y1 y2 y3 y4, LeO (stilelaw01_ValueLogic.j1 k y0 y1 y2 y3 y4) (stilelaw01_ValueLogic.j1 (k + 1) y0 y1 y2 y3 y4)) ∧ (∀ y0 y1 y2 y3, LeO (stilelaw01_ValueLogic.j2 k y0 y1 y2 y3) (stilelaw01_ValueLogic.j2 (k + 1) y0 y1 y2 y3))
  | 0 => ⟨fun _ _ _ _ r h => by simp [stilelaw01_ValueLogic.j0] at h, fun _ _ _ _ _ r h => by simp [stilelaw01_ValueLogic.j1] at h, fun _ _ _ _ r h => by simp [stilelaw01_ValueLogic.j2] at h⟩
  | k + 1 => by
    obtain ⟨ih0, ih1, ih2⟩ := stilelaw01_ValueLogic.mono_l k
    refine ⟨?_, ?_, ?_⟩
    · intro y0 y1 y2 y3
      unfold stilelaw01_ValueLogic.j0
      repeat' first
      | (with_reducible exact ih0 _ _ _ _)
      | (with_reducible exact ih1 _ _ _ _ _)
      | (with_reducible exact ih2 _ _ _ _)
      | (with_reducible exact stilelaw01_alive.mono _)
      | (with_reducible exact value_And.mono _ _ _)
      | (with_reducible exact value_Not.mono _ _)
      | (with_reducible exact value_Or.mono _ _ _)
      | (with_reducible exact LeO.refl _)
      | (with_reducible exact LeO.none _)
      | (with_reducible refine LeO.ite ?_ ?_)
      | (with_reducible refine LeO.bind ?_ (fun _ => ?_))
      | exact ih0 _ _ _ _
      | exact ih1 _ _ _ _ _
      | exact ih2 _ _ _ _
      | exact stilelaw01_alive.mono _
      | exact value_And.mono _ _ _
      | exact value_Not.mono _ _
      | exact value_Or.mono _ _ _
      | exact LeO.none _
      | refine LeO.ite ?_ ?_
      | refine LeO.bind ?_ (fun _ => ?_)
    · intro y0 y1 y2 y3 y4
      unfold stilelaw01_ValueLogic.j1
      repeat' first
      | (with_reducible exact ih0 _ _ _ _)
      | (with_reducible exact ih1 _ _ _ _ _)
      | (with_reducible exact ih2 _ _ _ _)
      | (with_reducible exact stilelaw01_alive.mono _)
      | (with_reducible exact value_And.mono _ _ _)
      | (with_reducible exact value_Not.mono _ _)
      | (with_reducible exact value_Or.mono _ _ _)
      | (with_reducible exact LeO.refl _)
      | (with_reducible exact LeO.none _)
      | (with_reducible refine LeO.ite ?_ ?_)
      | (with_reducible refine LeO.bind ?_ (fun _ => ?_))
      | exact ih0 _ _ _ _
      | exact ih1 _ _ _ _ _
      | exact ih2 _ _ _ _
      | exact stilelaw01_alive.mono _
      | exact value_And.mono _ _ _
      | exact value_Not.mono _ _
      | exact value_Or.mono _ _ _
      | exact LeO.none _
      | refine LeO.ite ?_ ?_
      | refine LeO.bind ?_ (fun _ => ?_)
    · intro y0 y1 y2 y3
      unfold stilelaw01_ValueLogic.j2
      repeat' first
      | (with_reducible exact ih0 _ _ _ _)
      | (with_reducible exact ih1 _ _ _ _ _)
      | (with_reducible exact ih2 _ _ _ _)
      | (with_reducible exact stilelaw01_alive.mono _)
      | (with_reducible exact value_And.mono _ _ _)
      | (with_reducible exact value_Not.mono _ _)
      | (with_reducible exact value_Or.mono _ _ _)
      | (with_reducible exact LeO.refl _)
      | (with_reducible exact LeO.none _)
      | (with_reducible refine LeO.ite ?_ ?_)
      | (with_reducible refine LeO.bind ?_ (fun _ => ?_))
      | exact ih0 _ _ _ _
      | exact ih1 _ _ _ _ _
      | exact ih2 _ _ _ _
      | exact stilelaw01_alive.mono _
      | exact value_And.mono _ _ _
      | exact value_Not.mono _ _
      | exact value_Or.mono _ _ _
      | exact LeO.none _
      | refine LeO.ite ?_ ?_
      | refine LeO.bind ?_ (fun _ => ?_)
theorem stilelaw01_ValueLogic.mono : ∀ a0 a1 a2 k, LeO (stilelaw01_ValueLogic.f k a0 a1 a2) (stilelaw01_ValueLogic.f (k + 1) a0 a1 a2) := by
  intro a0 a1 a2 k
  obtain ⟨ih0, ih1, ih2⟩ := stilelaw01_ValueLogic.mono_l k
  unfold stilelaw01_ValueLogic.f
  repeat' first
      | (with_reducible exact ih0 _ _ _ _)
      | (with_reducible exact ih1 _ _ _ _ _)
      | (with_reducible exact ih2 _ _ _ _)
      | (with_reducible exact stilelaw01_alive.mono _)
      | (with_reducible exact value_And.mono _ _ _)
      | (with_reducible exact value_Not.mono _ _)
      | (with_reducible exact value_Or.mono _ _ _)
      | (with_reducible exact LeO.refl _)
      | (with_reducible exact LeO.none _)
      | (with_reducible refine LeO.ite ?_ ?_)
      | (with_reducible refine LeO.bind ?_ (fun _ => ?_))
      | exact ih0 _ _ _ _
      | exact ih1 _ _ _ _ _
      | exact ih2 _ _ _ _
      | exact stilelaw01_alive.mono _
      | exact value_And.mono _ _ _
      | exact value_Not.mono _ _
      | exact value_Or.mono _ _ _
      | exact LeO.none _
      | refine LeO.ite ?_ ?_
      | refine LeO.bind ?_ (fun _ => ?_)
set_option maxHeartbeats 8000000 in
set_option maxRecDepth 100000 in
theorem stilelaw01_ValueLogic.calls (k : Nat) (a0 : Int) (a1 : Int) (a2 : Int) (r : Bool) (w : World) (h : stilelaw01_ValueLogic.f k a0 a1 a2 = some r) :
    Calls Tryd.prog 5 #[.int .i64 a0, .int .i64 a1, .int .i64 a2] w fun e w' => e = .returned (.bool r) ∧ Below w.heap.size w w' := by
  have HB := Aside0.mk (Below.refl w.heap.size w)
  have H : ((stilelaw01_pick.f a0 3).bind fun t210 => ((stilelaw01_pick.f a1 3).bind fun t211 => ((stilelaw01_pick.f a2 3).bind fun t212 => ((value_And.f k t210 t211).bind fun t213 => ((value_Not.f k t213).bind fun t214 => ((value_Not.f k t210).bind fun t215 => ((value_Not.f k t211).bind fun t216 => ((value_Or.f k t215 t216).bind fun t217 => (if t214 = t217 then ((value_Not.f k t210).bind fun t218 => ((value_Not.f k t218).bind fun t219 => (stilelaw01_ValueLogic.j0 k t210 t211 t212 (t219 == t210)))) else (stilelaw01_ValueLogic.j0 k t210 t211 t212 false)))))))))) = some r := h
  clear h
  replace H := Option.bind_eq_some_iff.mp H
  obtain ⟨t210, A40, H⟩ := H
  replace H : ((stilelaw01_pick.f a1 3).bind fun t211 => ((stilelaw01_pick.f a2 3).bind fun t212 => ((value_And.f k t210 t211).bind fun t213 => ((value_Not.f k t213).bind fun t214 => ((value_Not.f k t210).bind fun t215 => ((value_Not.f k t211).bind fun t216 => ((value_Or.f k t215 t216).bind fun t217 => (if t214 = t217 then ((value_Not.f k t210).bind fun t218 => ((value_Not.f k t218).bind fun t219 => (stilelaw01_ValueLogic.j0 k t210 t211 t212 (t219 == t210)))) else (stilelaw01_ValueLogic.j0 k t210 t211 t212 false))))))))) = some r := H
  have A4 := Aside0.mk A40
  clear A40
  replace H := Option.bind_eq_some_iff.mp H
  obtain ⟨t211, A50, H⟩ := H
  replace H : ((stilelaw01_pick.f a2 3).bind fun t212 => ((value_And.f k t210 t211).bind fun t213 => ((value_Not.f k t213).bind fun t214 => ((value_Not.f k t210).bind fun t215 => ((value_Not.f k t211).bind fun t216 => ((value_Or.f k t215 t216).bind fun t217 => (if t214 = t217 then ((value_Not.f k t210).bind fun t218 => ((value_Not.f k t218).bind fun t219 => (stilelaw01_ValueLogic.j0 k t210 t211 t212 (t219 == t210)))) else (stilelaw01_ValueLogic.j0 k t210 t211 t212 false)))))))) = some r := H
  have A5 := Aside0.mk A50
  clear A50
  replace H := Option.bind_eq_some_iff.mp H
  obtain ⟨t212, A60, H⟩ := H
  replace H : ((value_And.f k t210 t211).bind fun t213 => ((value_Not.f k t213).bind fun t214 => ((value_Not.f k t210).bind fun t215 => ((value_Not.f k t211).bind fun t216 => ((value_Or.f k t215 t216).bind fun t217 => (if t214 = t217 then ((value_Not.f k t210).bind fun t218 => ((value_Not.f k t218).bind fun t219 => (stilelaw01_ValueLogic.j0 k t210 t211 t212 (t219 == t210)))) else (stilelaw01_ValueLogic.j0 k t210 t211 t212 false))))))) = some r := H
  have A6 := Aside0.mk A60
  clear A60
  have HC7 := Aside0.mk H
  clear H
  go_enter Tryd.func5, Tryd.ntmps5
  go_upto_region 4 with (first | ((with_reducible refine gate_callee (f := 17) rfl ?_); refine goesL_ (some 14) rfl rfl Tryd.func17 (by kernel_rfl) rfl #[.int .i64 a0, .int .i64 3] rfl (by (try simp only [List.map_toArray, List.map_cons, List.map_nil]); first | done | rfl | (simp only [List.length_drop, List.length_take]; rfl)) ?_; (with_reducible refine (stilelaw01_pick.calls a0 3 t210 _ A4.out).mono ?_); rintro e w8 ⟨rfl, hb⟩; refine ⟨_, rfl, ?_⟩; have n0_ := Aside0.mk (below_step (by repeat (first | (with_reducible first | exact HB.out | apply below_alloc | apply pw_below_drewN | apply below_drew1) | exact HB.out)) hb); clear HB; have HB := n0_; clear n0_; (try clear hb); (try clear hb2); (try clear hk); (try clear hi)) | ((with_reducible refine gate_callee (f := 17) rfl ?_); refine goesL_ (some 16) rfl rfl Tryd.func17 (by kernel_rfl) rfl #[.int .i64 a1, .int .i64 3] rfl (by (try simp only [List.map_toArray, List.map_cons, List.map_nil]); first | done | rfl | (simp only [List.length_drop, List.length_take]; rfl)) ?_; (with_reducible refine (stilelaw01_pick.calls a1 3 t211 _ A5.out).mono ?_); rintro e w9 ⟨rfl, hb⟩; refine ⟨_, rfl, ?_⟩; have n0_ := Aside0.mk (below_step (by repeat (first | (with_reducible first | exact HB.out | apply below_alloc | apply pw_below_drewN | apply below_drew1) | exact HB.out)) hb); clear HB; have HB := n0_; clear n0_; (try clear hb); (try clear hb2); (try clear hk); (try clear hi)) | ((with_reducible refine gate_callee (f := 17) rfl ?_); refine goesL_ (some 18) rfl rfl Tryd.func17 (by kernel_rfl) rfl #[.int .i64 a2, .int .i64 3] rfl (by (try simp only [List.map_toArray, List.map_cons, List.map_nil]); first | done | rfl | (simp only [List.length_drop, List.length_take]; rfl)) ?_; (with_reducible refine (stilelaw01_pick.calls a2 3 t212 _ A6.out).mono ?_); rintro e w10 ⟨rfl, hb⟩; refine ⟨_, rfl, ?_⟩; have n0_ := Aside0.mk (below_step (by repeat (first | (with_reducible first | exact HB.out | apply below_alloc | apply pw_below_drewN | apply below_drew1) | exact HB.out)) hb); clear HB; have HB := n0_; clear n0_; (try clear hb); (try clear hb2); (try clear hk); (try clear hi)))
  (try simp only [Act.put, List.setIfInBounds_toArray, List.set_cons_zero, List.set_cons_succ])
  go_cut [10] (fun v10 wc => ∃ (kq : Nat) (x10_6 : Bool), v10 = .bool x10_6 ∧ Aside0 (stilelaw01_ValueLogic.j0 kq t210 t211 t212 x10_6 = some r) ∧ Aside0 (kq ≤ k) ∧ Aside0 (Below w.heap.size w wc))
  case first =>
    have H := HC7.out
    clear HC7
    replace H := Option.bind_eq_some_iff.mp H
    obtain ⟨t213, A110, H⟩ := H
    replace H : ((value_Not.f k t213).bind fun t214 => ((value_Not.f k t210).bind fun t215 => ((value_Not.f k t211).bind fun t216 => ((value_Or.f k t215 t216).bind fun t217 => (if t214 = t217 then ((value_Not.f k t210).bind fun t218 => ((value_Not.f k t218).bind fun t219 => (stilelaw01_ValueLogic.j0 k t210 t211 t212 (t219 == t210)))) else (stilelaw01_ValueLogic.j0 k t210 t211 t212 false)))))) = some r := H
    have A11 := Aside0.mk A110
    clear A110
    replace H := Option.bind_eq_some_iff.mp H
    obtain ⟨t214, A120, H⟩ := H
    replace H : ((value_Not.f k t210).bind fun t215 => ((value_Not.f k t211).bind fun t216 => ((value_Or.f k t215 t216).bind fun t217 => (if t214 = t217 then ((value_Not.f k t210).bind fun t218 => ((value_Not.f k t218).bind fun t219 => (stilelaw01_ValueLogic.j0 k t210 t211 t212 (t219 == t210)))) else (stilelaw01_ValueLogic.j0 k t210 t211 t212 false))))) = some r := H
    have A12 := Aside0.mk A120
    clear A120
    replace H := Option.bind_eq_some_iff.mp H
    obtain ⟨t215, A130, H⟩ := H
    replace H : ((value_Not.f k t211).bind fun t216 => ((value_Or.f k t215 t216).bind fun t217 => (if t214 = t217 then ((value_Not.f k t210).bind fun t218 => ((value_Not.f k t218).bind fun t219 => (stilelaw01_ValueLogic.j0 k t210 t211 t212 (t219 == t210)))) else (stilelaw01_ValueLogic.j0 k t210 t211 t212 false)))) = some r := H
    have A13 := Aside0.mk A130
    clear A130
    replace H := Option.bind_eq_some_iff.mp H
    obtain ⟨t216, A140, H⟩ := H
    replace H : ((value_Or.f k t215 t216).bind fun t217 => (if t214 = t217 then ((value_Not.f k t210).bind fun t218 => ((value_Not.f k t218).bind fun t219 => (stilelaw01_ValueLogic.j0 k t210 t211 t212 (t219 == t210)))) else (stilelaw01_ValueLogic.j0 k t210 t211 t212 false))) = some r := H
    have A14 := Aside0.mk A140
    clear A140
    replace H := Option.bind_eq_some_iff.mp H
    obtain ⟨t217, A150, H⟩ := H
    replace H : (if t214 = t217 then ((value_Not.f k t210).bind fun t218 => ((value_Not.f k t218).bind fun t219 => (stilelaw01_ValueLogic.j0 k t210 t211 t212 (t219 == t210)))) else (stilelaw01_ValueLogic.j0 k t210 t211 t212 false)) = some r := H
    have A15 := Aside0.mk A150
    clear A150
    by_cases c16 : t214 = t217
    · rw [if_pos c16] at H
      have c16b0 : (t214 == t217) = true := beq_iff_eq.mpr c16
      have c16b1 : (t214 != t217) = false := bne_eq_false_iff_eq.mpr c16
      clear c16
      (first | rw [c16b0] | (simp only [i64_w, i32_w]; rw [c16b0]) | skip)
      replace H := Option.bind_eq_some_iff.mp H
      obtain ⟨t218, A170, H⟩ := H
      replace H : ((value_Not.f k t218).bind fun t219 => (stilelaw01_ValueLogic.j0 k t210 t211 t212 (t219 == t210))) = some r := H
      have A17 := Aside0.mk A170
      clear A170
      replace H := Option.bind_eq_some_iff.mp H
      obtain ⟨t219, A180, H⟩ := H
      replace H : (stilelaw01_ValueLogic.j0 k t210 t211 t212 (t219 == t210)) = some r := H
      have A18 := Aside0.mk A180
      clear A180
      have H' := Aside0.mk H
      clear H
      go_wp2_with (first | ((with_reducible refine gate_callee (f := 19) rfl ?_); refine goesL_ (some 21) rfl rfl Tryd.func19 (by kernel_rfl) rfl #[.int .i64 t210, .int .i64 t211] rfl (by (try simp only [List.map_toArray, List.map_cons, List.map_nil]); first | done | rfl | (simp only [List.length_drop, List.length_take]; rfl)) ?_; (with_reducible refine (value_And.calls k t210 t211 t213 _ A11.out).mono ?_); rintro e w19 ⟨rfl, hb⟩; refine ⟨_, rfl, ?_⟩; have n0_ := Aside0.mk (below_step (by repeat (first | (with_reducible first | exact HB.out | apply below_alloc | apply pw_below_drewN | apply below_drew1) | exact HB.out)) hb); clear HB; have HB := n0_; clear n0_; (try clear hb); (try clear hb2); (try clear hk); (try clear hi)) | ((with_reducible refine gate_callee (f := 18) rfl ?_); refine goesL_ (some 22) rfl rfl Tryd.func18 (by kernel_rfl) rfl #[.int .i64 t213] rfl (by (try simp only [List.map_toArray, List.map_cons, List.map_nil]); first | done | rfl | (simp only [List.length_drop, List.length_take]; rfl)) ?_; (with_reducible refine (value_Not.calls k t213 t214 _ A12.out).mono ?_); rintro e w' ⟨rfl, ⟨nd, rfl⟩⟩; refine ⟨_, rfl, ?_⟩) | ((with_reducible refine gate_callee (f := 18) rfl ?_); refine goesL_ (some 24) rfl rfl Tryd.func18 (by kernel_rfl) rfl #[.int .i64 t210] rfl (by (try simp only [List.map_toArray, List.map_cons, List.map_nil]); first | done | rfl | (simp only [List.length_drop, List.length_take]; rfl)) ?_; (with_reducible refine (value_Not.calls k t210 t215 _ A13.out).mono ?_); rintro e w' ⟨rfl, ⟨nd, rfl⟩⟩; refine ⟨_, rfl, ?_⟩) | ((with_reducible refine gate_callee (f := 18) rfl ?_); refine goesL_ (some 26) rfl rfl Tryd.func18 (by kernel_rfl) rfl #[.int .i64 t211] rfl (by (try simp only [List.map_toArray, List.map_cons, List.map_nil]); first | done | rfl | (simp only [List.length_drop, List.length_take]; rfl)) ?_; (with_reducible refine (value_Not.calls k t211 t216 _ A14.out).mono ?_); rintro e w' ⟨rfl, ⟨nd, rfl⟩⟩; refine ⟨_, rfl, ?_⟩) | ((with_reducible refine gate_callee (f := 20) rfl ?_); refine goesL_ (some 27) rfl rfl Tryd.func20 (by kernel_rfl) rfl #[.int .i64 t215, .int .i64 t216] rfl (by (try simp only [List.map_toArray, List.map_cons, List.map_nil]); first | done | rfl | (simp only [List.length_drop, List.length_take]; rfl)) ?_; (with_reducible refine (value_Or.calls k t215 t216 t217 _ A15.out).mono ?_); rintro e w20 ⟨rfl, hb⟩; refine ⟨_, rfl, ?_⟩; have n0_ := Aside0.mk (below_step (by repeat (first | (with_reducible first | exact HB.out | apply below_alloc | apply pw_below_drewN | apply below_drew1) | exact HB.out)) hb); clear HB; have HB := n0_; clear n0_; (try clear hb); (try clear hb2); (try clear hk); (try clear hi)) | (go_at_call 18; (with_reducible refine (value_Not.calls k t210 t218 _ A17.out).mono ?_); rintro e w' ⟨rfl, ⟨nd, rfl⟩⟩) | (go_at_call 18; (with_reducible refine (value_Not.calls k t218 t219 _ A18.out).mono ?_); rintro e w' ⟨rfl, ⟨nd, rfl⟩⟩))
      go_meet
      case rel => exact ⟨_, ((t219 == t210)), (by first | rfl | (simp; done) | (simp [*]; done)), H', ⟨by first | omega | exact Nat.le_refl _⟩, ⟨by repeat (first | (with_reducible first | exact HB.out | apply below_alloc | apply pw_below_drewN | apply below_drew1) | exact HB.out)⟩⟩
    · rw [if_neg c16] at H
      have c16b0 : (t214 == t217) = false := beq_eq_false_iff_ne.mpr c16
      have c16b1 : (t214 != t217) = true := bne_iff_ne.mpr c16
      (first | rw [c16b0] | (simp only [i64_w, i32_w]; rw [c16b0]) | skip)
      have H' := Aside0.mk H
      clear H
      go_wp2_with (first | ((with_reducible refine gate_callee (f := 19) rfl ?_); refine goesL_ (some 21) rfl rfl Tryd.func19 (by kernel_rfl) rfl #[.int .i64 t210, .int .i64 t211] rfl (by (try simp only [List.map_toArray, List.map_cons, List.map_nil]); first | done | rfl | (simp only [List.length_drop, List.length_take]; rfl)) ?_; (with_reducible refine (value_And.calls k t210 t211 t213 _ A11.out).mono ?_); rintro e w21 ⟨rfl, hb⟩; refine ⟨_, rfl, ?_⟩; have n0_ := Aside0.mk (below_step (by repeat (first | (with_reducible first | exact HB.out | apply below_alloc | apply pw_below_drewN | apply below_drew1) | exact HB.out)) hb); clear HB; have HB := n0_; clear n0_; (try clear hb); (try clear hb2); (try clear hk); (try clear hi)) | ((with_reducible refine gate_callee (f := 18) rfl ?_); refine goesL_ (some 22) rfl rfl Tryd.func18 (by kernel_rfl) rfl #[.int .i64 t213] rfl (by (try simp only [List.map_toArray, List.map_cons, List.map_nil]); first | done | rfl | (simp only [List.length_drop, List.length_take]; rfl)) ?_; (with_reducible refine (value_Not.calls k t213 t214 _ A12.out).mono ?_); rintro e w' ⟨rfl, ⟨nd, rfl⟩⟩; refine ⟨_, rfl, ?_⟩) | ((with_reducible refine gate_callee (f := 18) rfl ?_); refine goesL_ (some 24) rfl rfl Tryd.func18 (by kernel_rfl) rfl #[.int .i64 t210] rfl (by (try simp only [List.map_toArray, List.map_cons, List.map_nil]); first | done | rfl | (simp only [List.length_drop, List.length_take]; rfl)) ?_; (with_reducible refine (value_Not.calls k t210 t215 _ A13.out).mono ?_); rintro e w' ⟨rfl, ⟨nd, rfl⟩⟩; refine ⟨_, rfl, ?_⟩) | ((with_reducible refine gate_callee (f := 18) rfl ?_); refine goesL_ (some 26) rfl rfl Tryd.func18 (by kernel_rfl) rfl #[.int .i64 t211] rfl (by (try simp only [List.map_toArray, List.map_cons, List.map_nil]); first | done | rfl | (simp only [List.length_drop, List.length_take]; rfl)) ?_; (with_reducible refine (value_Not.calls k t211 t216 _ A14.out).mono ?_); rintro e w' ⟨rfl, ⟨nd, rfl⟩⟩; refine ⟨_, rfl, ?_⟩) | ((with_reducible refine gate_callee (f := 20) rfl ?_); refine goesL_ (some 27) rfl rfl Tryd.func20 (by kernel_rfl) rfl #[.int .i64 t215, .int .i64 t216] rfl (by (try simp only [List.map_toArray, List.map_cons, List.map_nil]); first | done | rfl | (simp only [List.length_drop, List.length_take]; rfl)) ?_; (with_reducible refine (value_Or.calls k t215 t216 t217 _ A15.out).mono ?_); rintro e w22 ⟨rfl, hb⟩; refine ⟨_, rfl, ?_⟩; have n0_ := Aside0.mk (below_step (by repeat (first | (with_reducible first | exact HB.out | apply below_alloc | apply pw_below_drewN | apply below_drew1) | exact HB.out)) hb); clear HB; have HB := n0_; clear n0_; (try clear hb); (try clear hb2); (try clear hk); (try clear hi)))
      go_meet
      case rel => exact ⟨_, (false), (by first | rfl | (simp; done) | (simp [*]; done)), H', ⟨by first | omega | exact Nat.le_refl _⟩, ⟨by repeat (first | (with_reducible first | exact HB.out | apply below_alloc | apply pw_below_drewN | apply below_drew1) | exact HB.out)⟩⟩
  case rest =>
    clear HC7
    try clear c1
    try clear c2
    try clear p2
    try clear c5
    try clear c16
    try clear c16b0
    try clear c16b1
    try clear c17
    try clear c18
    try clear c19
    try clear c20
    obtain ⟨kq, x10_6, rfl, HA, HJ6, HB⟩ := hcut
    cases kq with
    | zero => exact absurd HA.out (by simp [stilelaw01_ValueLogic.j0])
    | succ kj6 =>
      have H := HA.out
      clear HA
      simp only [stilelaw01_ValueLogic.j0] at H
      have HC23 := Aside0.mk H
      clear H
      go_upto_region 5 with (fail)
      go_cut [11] (fun v11 wc => ∃ (kq : Nat) (x11_22 : Bool), v11 = .bool x11_22 ∧ Aside0 (stilelaw01_ValueLogic.j1 kq t210 t211 t212 x10_6 x11_22 = some r) ∧ Aside0 (kq ≤ kj6) ∧ Aside0 (Below w.heap.size w wc))
      case first =>
        have H := HC23.out
        clear HC23
        replace H := Option.bind_eq_some_iff.mp H
        obtain ⟨t220, A240, H⟩ := H
        replace H : ((value_And.f kj6 t211 t210).bind fun t221 => (if t220 = t221 then ((value_And.f kj6 t211 t212).bind fun t222 => ((value_And.f kj6 t210 t222).bind fun t223 => ((value_And.f kj6 t210 t211).bind fun t224 => ((value_And.f kj6 t224 t212).bind fun t225 => (stilelaw01_ValueLogic.j1 kj6 t210 t211 t212 x10_6 (t223 == t225)))))) else (stilelaw01_ValueLogic.j1 kj6 t210 t211 t212 x10_6 false))) = some r := H
        have A24 := Aside0.mk A240
        clear A240
        replace H := Option.bind_eq_some_iff.mp H
        obtain ⟨t221, A250, H⟩ := H
        replace H : (if t220 = t221 then ((value_And.f kj6 t211 t212).bind fun t222 => ((value_And.f kj6 t210 t222).bind fun t223 => ((value_And.f kj6 t210 t211).bind fun t224 => ((value_And.f kj6 t224 t212).bind fun t225 => (stilelaw01_ValueLogic.j1 kj6 t210 t211 t212 x10_6 (t223 == t225)))))) else (stilelaw01_ValueLogic.j1 kj6 t210 t211 t212 x10_6 false)) = some r := H
        have A25 := Aside0.mk A250
        clear A250
        by_cases c26 : t220 = t221
        · rw [if_pos c26] at H
          have c26b0 : (t220 == t221) = true := beq_iff_eq.mpr c26
          have c26b1 : (t220 != t221) = false := bne_eq_false_iff_eq.mpr c26
          clear c26
          (first | rw [c26b0] | (simp only [i64_w, i32_w]; rw [c26b0]) | skip)
          replace H := Option.bind_eq_some_iff.mp H
          obtain ⟨t222, A270, H⟩ := H
          replace H : ((value_And.f kj6 t210 t222).bind fun t223 => ((value_And.f kj6 t210 t211).bind fun t224 => ((value_And.f kj6 t224 t212).bind fun t225 => (stilelaw01_ValueLogic.j1 kj6 t210 t211 t212 x10_6 (t223 == t225))))) = some r := H
          have A27 := Aside0.mk A270
          clear A270
          replace H := Option.bind_eq_some_iff.mp H
          obtain ⟨t223, A280, H⟩ := H
          replace H : ((value_And.f kj6 t210 t211).bind fun t224 => ((value_And.f kj6 t224 t212).bind fun t225 => (stilelaw01_ValueLogic.j1 kj6 t210 t211 t212 x10_6 (t223 == t225)))) = some r := H
          have A28 := Aside0.mk A280
          clear A280
          replace H := Option.bind_eq_some_iff.mp H
          obtain ⟨t224, A290, H⟩ := H
          replace H : ((value_And.f kj6 t224 t212).bind fun t225 => (stilelaw01_ValueLogic.j1 kj6 t210 t211 t212 x10_6 (t223 == t225))) = some r := H
          have A29 := Aside0.mk A290
          clear A290
          replace H := Option.bind_eq_some_iff.mp H
          obtain ⟨t225, A300, H⟩ := H
          replace H : (stilelaw01_ValueLogic.j1 kj6 t210 t211 t212 x10_6 (t223 == t225)) = some r := H
          have A30 := Aside0.mk A300
          clear A300
          have H' := Aside0.mk H
          clear H
          go_wp2_with (first | ((with_reducible refine gate_callee (f := 19) rfl ?_); refine goesL_ (some 38) rfl rfl Tryd.func19 (by kernel_rfl) rfl #[.int .i64 t210, .int .i64 t211] rfl (by (try simp only [List.map_toArray, List.map_cons, List.map_nil]); first | done | rfl | (simp only [List.length_drop, List.length_take]; rfl)) ?_; (with_reducible refine (value_And.calls kj6 t210 t211 t220 _ A24.out).mono ?_); rintro e w31 ⟨rfl, hb⟩; refine ⟨_, rfl, ?_⟩; have n0_ := Aside0.mk (below_step (by repeat (first | (with_reducible first | exact HB.out | apply below_alloc | apply pw_below_drewN | apply below_drew1) | exact HB.out)) hb); clear HB; have HB := n0_; clear n0_; (try clear hb); (try clear hb2); (try clear hk); (try clear hi)) | ((with_reducible refine gate_callee (f := 19) rfl ?_); refine goesL_ (some 41) rfl rfl Tryd.func19 (by kernel_rfl) rfl #[.int .i64 t211, .int .i64 t210] rfl (by (try simp only [List.map_toArray, List.map_cons, List.map_nil]); first | done | rfl | (simp only [List.length_drop, List.length_take]; rfl)) ?_; (with_reducible refine (value_And.calls kj6 t211 t210 t221 _ A25.out).mono ?_); rintro e w32 ⟨rfl, hb⟩; refine ⟨_, rfl, ?_⟩; have n0_ := Aside0.mk (below_step (by repeat (first | (with_reducible first | exact HB.out | apply below_alloc | apply pw_below_drewN | apply below_drew1) | exact HB.out)) hb); clear HB; have HB := n0_; clear n0_; (try clear hb); (try clear hb2); (try clear hk); (try clear hi)) | (go_at_call 19; (with_reducible refine (value_And.calls kj6 t211 t212 t222 _ A27.out).mono ?_); rintro e w33 ⟨rfl, hb⟩; have n0_ := Aside0.mk (below_step (by repeat (first | (with_reducible first | exact HB.out | apply below_alloc | apply pw_below_drewN | apply below_drew1) | exact HB.out)) hb); clear HB; have HB := n0_; clear n0_; (try clear hb); (try clear hb2); (try clear hk); (try clear hi)) | (go_at_call 19; (with_reducible refine (value_And.calls kj6 t210 t222 t223 _ A28.out).mono ?_); rintro e w34 ⟨rfl, hb⟩; have n0_ := Aside0.mk (below_step (by repeat (first | (with_reducible first | exact HB.out | apply below_alloc | apply pw_below_drewN | apply below_drew1) | exact HB.out)) hb); clear HB; have HB := n0_; clear n0_; (try clear hb); (try clear hb2); (try clear hk); (try clear hi)) | (go_at_call 19; (with_reducible refine (value_And.calls kj6 t210 t211 t224 _ A29.out).mono ?_); rintro e w35 ⟨rfl, hb⟩; have n0_ := Aside0.mk (below_step (by repeat (first | (with_reducible first | exact HB.out | apply below_alloc | apply pw_below_drewN | apply below_drew1) | exact HB.out)) hb); clear HB; have HB := n0_; clear n0_; (try clear hb); (try clear hb2); (try clear hk); (try clear hi)) | (go_at_call 19; (with_reducible refine (value_And.calls kj6 t224 t212 t225 _ A30.out).mono ?_); rintro e w36 ⟨rfl, hb⟩; have n0_ := Aside0.mk (below_step (by repeat (first | (with_reducible first | exact HB.out | apply below_alloc | apply pw_below_drewN | apply below_drew1) | exact HB.out)) hb); clear HB; have HB := n0_; clear n0_; (try clear hb); (try clear hb2); (try clear hk); (try clear hi)))
          go_meet
          case rel => exact ⟨_, ((t223 == t225)), (by first | rfl | (simp; done) | (simp [*]; done)), H', ⟨by have := HJ6.out; first | omega | exact Nat.le_refl _⟩, ⟨by repeat (first | (with_reducible first | exact HB.out | apply below_alloc | apply pw_below_drewN | apply below_drew1) | exact HB.out)⟩⟩
        · rw [if_neg c26] at H
          have c26b0 : (t220 == t221) = false := beq_eq_false_iff_ne.mpr c26
          have c26b1 : (t220 != t221) = true := bne_iff_ne.mpr c26
          (first | rw [c26b0] | (simp only [i64_w, i32_w]; rw [c26b0]) | skip)
          have H' := Aside0.mk H
          clear H
          go_wp2_with (first | ((with_reducible refine gate_callee (f := 19) rfl ?_); refine goesL_ (some 38) rfl rfl Tryd.func19 (by kernel_rfl) rfl #[.int .i64 t210, .int .i64 t211] rfl (by (try simp only [List.map_toArray, List.map_cons, List.map_nil]); first | done | rfl | (simp only [List.length_drop, List.length_take]; rfl)) ?_; (with_reducible refine (value_And.calls kj6 t210 t211 t220 _ A24.out).mono ?_); rintro e w37 ⟨rfl, hb⟩; refine ⟨_, rfl, ?_⟩; have n0_ := Aside0.mk (below_step (by repeat (first | (with_reducible first | exact HB.out | apply below_alloc | apply pw_below_drewN | apply below_drew1) | exact HB.out)) hb); clear HB; have HB := n0_; clear n0_; (try clear hb); (try clear hb2); (try clear hk); (try clear hi)) | ((with_reducible refine gate_callee (f := 19) rfl ?_); refine goesL_ (some 41) rfl rfl Tryd.func19 (by kernel_rfl) rfl #[.int .i64 t211, .int .i64 t210] rfl (by (try simp only [List.map_toArray, List.map_cons, List.map_nil]); first | done | rfl | (simp only [List.length_drop, List.length_take]; rfl)) ?_; (with_reducible refine (value_And.calls kj6 t211 t210 t221 _ A25.out).mono ?_); rintro e w38 ⟨rfl, hb⟩; refine ⟨_, rfl, ?_⟩; have n0_ := Aside0.mk (below_step (by repeat (first | (with_reducible first | exact HB.out | apply below_alloc | apply pw_below_drewN | apply below_drew1) | exact HB.out)) hb); clear HB; have HB := n0_; clear n0_; (try clear hb); (try clear hb2); (try clear hk); (try clear hi)))
          go_meet
          case rel => exact ⟨_, (false), (by first | rfl | (simp; done) | (simp [*]; done)), H', ⟨by have := HJ6.out; first | omega | exact Nat.le_refl _⟩, ⟨by repeat (first | (with_reducible first | exact HB.out | apply below_alloc | apply pw_below_drewN | apply below_drew1) | exact HB.out)⟩⟩
      case rest =>
        clear HC23
        try clear c1
        try clear c2
        try clear p2
        try clear c5
        try clear c16
        try clear c16b0
        try clear c16b1
        try clear c17
        try clear c18
        try clear c19
        try clear c20
        try clear c26
        try clear c26b0
        try clear c26b1
        try clear p2
        obtain ⟨kq, x11_22, rfl, HA, HJ22, HB⟩ := hcut
        cases kq with
        | zero => exact absurd HA.out (by simp [stilelaw01_ValueLogic.j1])
        | succ kj22 =>
          have H := HA.out
          clear HA
          simp only [stilelaw01_ValueLogic.j1] at H
          have HC39 := Aside0.mk H
          clear H
          go_upto_region 6 with (fail)
          go_cut [12] (fun v12 wc => ∃ (kq : Nat) (x12_38 : Bool), v12 = .bool x12_38 ∧ Aside0 (stilelaw01_ValueLogic.j2 kq t210 x10_6 x11_22 x12_38 = some r) ∧ Aside0 (kq ≤ kj22) ∧ Aside0 (Below w.heap.size w wc))
          case first =>
            have H := HC39.out
            clear HC39
            replace H := Option.bind_eq_some_iff.mp H
            obtain ⟨t226, A400, H⟩ := H
            replace H : ((value_And.f kj22 t210 t226).bind fun t227 => ((value_And.f kj22 t210 t211).bind fun t228 => ((value_And.f kj22 t210 t212).bind fun t229 => ((value_Or.f kj22 t228 t229).bind fun t230 => (if t227 = t230 then ((value_And.f kj22 t210 t211).bind fun t231 => ((value_Or.f kj22 t210 t231).bind fun t232 => (stilelaw01_ValueLogic.j2 kj22 t210 x10_6 x11_22 (t232 == t210)))) else (stilelaw01_ValueLogic.j2 kj22 t210 x10_6 x11_22 false)))))) = some r := H
            have A40 := Aside0.mk A400
            clear A400
            replace H := Option.bind_eq_some_iff.mp H
            obtain ⟨t227, A410, H⟩ := H
            replace H : ((value_And.f kj22 t210 t211).bind fun t228 => ((value_And.f kj22 t210 t212).bind fun t229 => ((value_Or.f kj22 t228 t229).bind fun t230 => (if t227 = t230 then ((value_And.f kj22 t210 t211).bind fun t231 => ((value_Or.f kj22 t210 t231).bind fun t232 => (stilelaw01_ValueLogic.j2 kj22 t210 x10_6 x11_22 (t232 == t210)))) else (stilelaw01_ValueLogic.j2 kj22 t210 x10_6 x11_22 false))))) = some r := H
            have A41 := Aside0.mk A410
            clear A410
            replace H := Option.bind_eq_some_iff.mp H
            obtain ⟨t228, A420, H⟩ := H
            replace H : ((value_And.f kj22 t210 t212).bind fun t229 => ((value_Or.f kj22 t228 t229).bind fun t230 => (if t227 = t230 then ((value_And.f kj22 t210 t211).bind fun t231 => ((value_Or.f kj22 t210 t231).bind fun t232 => (stilelaw01_ValueLogic.j2 kj22 t210 x10_6 x11_22 (t232 == t210)))) else (stilelaw01_ValueLogic.j2 kj22 t210 x10_6 x11_22 false)))) = some r := H
            have A42 := Aside0.mk A420
            clear A420
            replace H := Option.bind_eq_some_iff.mp H
            obtain ⟨t229, A430, H⟩ := H
            replace H : ((value_Or.f kj22 t228 t229).bind fun t230 => (if t227 = t230 then ((value_And.f kj22 t210 t211).bind fun t231 => ((value_Or.f kj22 t210 t231).bind fun t232 => (stilelaw01_ValueLogic.j2 kj22 t210 x10_6 x11_22 (t232 == t210)))) else (stilelaw01_ValueLogic.j2 kj22 t210 x10_6 x11_22 false))) = some r := H
            have A43 := Aside0.mk A430
            clear A430
            replace H := Option.bind_eq_some_iff.mp H
            obtain ⟨t230, A440, H⟩ := H
            replace H : (if t227 = t230 then ((value_And.f kj22 t210 t211).bind fun t231 => ((value_Or.f kj22 t210 t231).bind fun t232 => (stilelaw01_ValueLogic.j2 kj22 t210 x10_6 x11_22 (t232 == t210)))) else (stilelaw01_ValueLogic.j2 kj22 t210 x10_6 x11_22 false)) = some r := H
            have A44 := Aside0.mk A440
            clear A440
            by_cases c45 : t227 = t230
            · rw [if_pos c45] at H
              have c45b0 : (t227 == t230) = true := beq_iff_eq.mpr c45
              have c45b1 : (t227 != t230) = false := bne_eq_false_iff_eq.mpr c45
              clear c45
              (first | rw [c45b0] | (simp only [i64_w, i32_w]; rw [c45b0]) | skip)
              replace H := Option.bind_eq_some_iff.mp H
              obtain ⟨t231, A460, H⟩ := H
              replace H : ((value_Or.f kj22 t210 t231).bind fun t232 => (stilelaw01_ValueLogic.j2 kj22 t210 x10_6 x11_22 (t232 == t210))) = some r := H
              have A46 := Aside0.mk A460
              clear A460
              replace H := Option.bind_eq_some_iff.mp H
              obtain ⟨t232, A470, H⟩ := H
              replace H : (stilelaw01_ValueLogic.j2 kj22 t210 x10_6 x11_22 (t232 == t210)) = some r := H
              have A47 := Aside0.mk A470
              clear A470
              have H' := Aside0.mk H
              clear H
              go_wp2_with (first | ((with_reducible refine gate_callee (f := 20) rfl ?_); refine goesL_ (some 59) rfl rfl Tryd.func20 (by kernel_rfl) rfl #[.int .i64 t211, .int .i64 t212] rfl (by (try simp only [List.map_toArray, List.map_cons, List.map_nil]); first | done | rfl | (simp only [List.length_drop, List.length_take]; rfl)) ?_; (with_reducible refine (value_Or.calls kj22 t211 t212 t226 _ A40.out).mono ?_); rintro e w48 ⟨rfl, hb⟩; refine ⟨_, rfl, ?_⟩; have n0_ := Aside0.mk (below_step (by repeat (first | (with_reducible first | exact HB.out | apply below_alloc | apply pw_below_drewN | apply below_drew1) | exact HB.out)) hb); clear HB; have HB := n0_; clear n0_; (try clear hb); (try clear hb2); (try clear hk); (try clear hi)) | ((with_reducible refine gate_callee (f := 19) rfl ?_); refine goesL_ (some 60) rfl rfl Tryd.func19 (by kernel_rfl) rfl #[.int .i64 t210, .int .i64 t226] rfl (by (try simp only [List.map_toArray, List.map_cons, List.map_nil]); first | done | rfl | (simp only [List.length_drop, List.length_take]; rfl)) ?_; (with_reducible refine (value_And.calls kj22 t210 t226 t227 _ A41.out).mono ?_); rintro e w49 ⟨rfl, hb⟩; refine ⟨_, rfl, ?_⟩; have n0_ := Aside0.mk (below_step (by repeat (first | (with_reducible first | exact HB.out | apply below_alloc | apply pw_below_drewN | apply below_drew1) | exact HB.out)) hb); clear HB; have HB := n0_; clear n0_; (try clear hb); (try clear hb2); (try clear hk); (try clear hi)) | ((with_reducible refine gate_callee (f := 19) rfl ?_); refine goesL_ (some 63) rfl rfl Tryd.func19 (by kernel_rfl) rfl #[.int .i64 t210, .int .i64 t211] rfl (by (try simp only [List.map_toArray, List.map_cons, List.map_nil]); first | done | rfl | (simp only [List.length_drop, List.length_take]; rfl)) ?_; (with_reducible refine (value_And.calls kj22 t210 t211 t228 _ A42.out).mono ?_); rintro e w50 ⟨rfl, hb⟩; refine ⟨_, rfl, ?_⟩; have n0_ := Aside0.mk (below_step (by repeat (first | (with_reducible first | exact HB.out | apply below_alloc | apply pw_below_drewN | apply below_drew1) | exact HB.out)) hb); clear HB; have HB := n0_; clear n0_; (try clear hb); (try clear hb2); (try clear hk); (try clear hi)) | ((with_reducible refine gate_callee (f := 19) rfl ?_); refine goesL_ (some 66) rfl rfl Tryd.func19 (by kernel_rfl) rfl #[.int .i64 t210, .int .i64 t212] rfl (by (try simp only [List.map_toArray, List.map_cons, List.map_nil]); first | done | rfl | (simp only [List.length_drop, List.length_take]; rfl)) ?_; (with_reducible refine (value_And.calls kj22 t210 t212 t229 _ A43.out).mono ?_); rintro e w51 ⟨rfl, hb⟩; refine ⟨_, rfl, ?_⟩; have n0_ := Aside0.mk (below_step (by repeat (first | (with_reducible first | exact HB.out | apply below_alloc | apply pw_below_drewN | apply below_drew1) | exact HB.out)) hb); clear HB; have HB := n0_; clear n0_; (try clear hb); (try clear hb2); (try clear hk); (try clear hi)) | ((with_reducible refine gate_callee (f := 20) rfl ?_); refine goesL_ (some 67) rfl rfl Tryd.func20 (by kernel_rfl) rfl #[.int .i64 t228, .int .i64 t229] rfl (by (try simp only [List.map_toArray, List.map_cons, List.map_nil]); first | done | rfl | (simp only [List.length_drop, List.length_take]; rfl)) ?_; (with_reducible refine (value_Or.calls kj22 t228 t229 t230 _ A44.out).mono ?_); rintro e w52 ⟨rfl, hb⟩; refine ⟨_, rfl, ?_⟩; have n0_ := Aside0.mk (below_step (by repeat (first | (with_reducible first | exact HB.out | apply below_alloc | apply pw_below_drewN | apply below_drew1) | exact HB.out)) hb); clear HB; have HB := n0_; clear n0_; (try clear hb); (try clear hb2); (try clear hk); (try clear hi)) | (go_at_call 19; (with_reducible refine (value_And.calls kj22 t210 t211 t231 _ A46.out).mono ?_); rintro e w53 ⟨rfl, hb⟩; have n0_ := Aside0.mk (below_step (by repeat (first | (with_reducible first | exact HB.out | apply below_alloc | apply pw_below_drewN | apply below_drew1) | exact HB.out)) hb); clear HB; have HB := n0_; clear n0_; (try clear hb); (try clear hb2); (try clear hk); (try clear hi)) | (go_at_call 20; (with_reducible refine (value_Or.calls kj22 t210 t231 t232 _ A47.out).mono ?_); rintro e w54 ⟨rfl, hb⟩; have n0_ := Aside0.mk (below_step (by repeat (first | (with_reducible first | exact HB.out | apply below_alloc | apply pw_below_drewN | apply below_drew1) | exact HB.out)) hb); clear HB; have HB := n0_; clear n0_; (try clear hb); (try clear hb2); (try clear hk); (try clear hi)))
              go_meet
              case rel => exact ⟨_, ((t232 == t210)), (by first | rfl | (simp; done) | (simp [*]; done)), H', ⟨by have := HJ6.out; have := HJ22.out; first | omega | exact Nat.le_refl _⟩, ⟨by repeat (first | (with_reducible first | exact HB.out | apply below_alloc | apply pw_below_drewN | apply below_drew1) | exact HB.out)⟩⟩
            · rw [if_neg c45] at H
              have c45b0 : (t227 == t230) = false := beq_eq_false_iff_ne.mpr c45
              have c45b1 : (t227 != t230) = true := bne_iff_ne.mpr c45
              (first | rw [c45b0] | (simp only [i64_w, i32_w]; rw [c45b0]) | skip)
              have H' := Aside0.mk H
              clear H
              go_wp2_with (first | ((with_reducible refine gate_callee (f := 20) rfl ?_); refine goesL_ (some 59) rfl rfl Tryd.func20 (by kernel_rfl) rfl #[.int .i64 t211, .int .i64 t212] rfl (by (try simp only [List.map_toArray, List.map_cons, List.map_nil]); first | done | rfl | (simp only [List.length_drop, List.length_take]; rfl)) ?_; (with_reducible refine (value_Or.calls kj22 t211 t212 t226 _ A40.out).mono ?_); rintro e w55 ⟨rfl, hb⟩; refine ⟨_, rfl, ?_⟩; have n0_ := Aside0.mk (below_step (by repeat (first | (with_reducible first | exact HB.out | apply below_alloc | apply pw_below_drewN | apply below_drew1) | exact HB.out)) hb); clear HB; have HB := n0_; clear n0_; (try clear hb); (try clear hb2); (try clear hk); (try clear hi)) | ((with_reducible refine gate_callee (f := 19) rfl ?_); refine goesL_ (some 60) rfl rfl Tryd.func19 (by kernel_rfl) rfl #[.int .i64 t210, .int .i64 t226] rfl (by (try simp only [List.map_toArray, List.map_cons, List.map_nil]); first | done | rfl | (simp only [List.length_drop, List.length_take]; rfl)) ?_; (with_reducible refine (value_And.calls kj22 t210 t226 t227 _ A41.out).mono ?_); rintro e w56 ⟨rfl, hb⟩; refine ⟨_, rfl, ?_⟩; have n0_ := Aside0.mk (below_step (by repeat (first | (with_reducible first | exact HB.out | apply below_alloc | apply pw_below_drewN | apply below_drew1) | exact HB.out)) hb); clear HB; have HB := n0_; clear n0_; (try clear hb); (try clear hb2); (try clear hk); (try clear hi)) | ((with_reducible refine gate_callee (f := 19) rfl ?_); refine goesL_ (some 63) rfl rfl Tryd.func19 (by kernel_rfl) rfl #[.int .i64 t210, .int .i64 t211] rfl (by (try simp only [List.map_toArray, List.map_cons, List.map_nil]); first | done | rfl | (simp only [List.length_drop, List.length_take]; rfl)) ?_; (with_reducible refine (value_And.calls kj22 t210 t211 t228 _ A42.out).mono ?_); rintro e w57 ⟨rfl, hb⟩; refine ⟨_, rfl, ?_⟩; have n0_ := Aside0.mk (below_step (by repeat (first | (with_reducible first | exact HB.out | apply below_alloc | apply pw_below_drewN | apply below_drew1) | exact HB.out)) hb); clear HB; have HB := n0_; clear n0_; (try clear hb); (try clear hb2); (try clear hk); (try clear hi)) | ((with_reducible refine gate_callee (f := 19) rfl ?_); refine goesL_ (some 66) rfl rfl Tryd.func19 (by kernel_rfl) rfl #[.int .i64 t210, .int .i64 t212] rfl (by (try simp only [List.map_toArray, List.map_cons, List.map_nil]); first | done | rfl | (simp only [List.length_drop, List.length_take]; rfl)) ?_; (with_reducible refine (value_And.calls kj22 t210 t212 t229 _ A43.out).mono ?_); rintro e w58 ⟨rfl, hb⟩; refine ⟨_, rfl, ?_⟩; have n0_ := Aside0.mk (below_step (by repeat (first | (with_reducible first | exact HB.out | apply below_alloc | apply pw_below_drewN | apply below_drew1) | exact HB.out)) hb); clear HB; have HB := n0_; clear n0_; (try clear hb); (try clear hb2); (try clear hk); (try clear hi)) | ((with_reducible refine gate_callee (f := 20) rfl ?_); refine goesL_ (some 67) rfl rfl Tryd.func20 (by kernel_rfl) rfl #[.int .i64 t228, .int .i64 t229] rfl (by (try simp only [List.map_toArray, List.map_cons, List.map_nil]); first | done | rfl | (simp only [List.length_drop, List.length_take]; rfl)) ?_; (with_reducible refine (value_Or.calls kj22 t228 t229 t230 _ A44.out).mono ?_); rintro e w59 ⟨rfl, hb⟩; refine ⟨_, rfl, ?_⟩; have n0_ := Aside0.mk (below_step (by repeat (first | (with_reducible first | exact HB.out | apply below_alloc | apply pw_below_drewN | apply below_drew1) | exact HB.out)) hb); clear HB; have HB := n0_; clear n0_; (try clear hb); (try clear hb2); (try clear hk); (try clear hi)))
              go_meet
              case rel => exact ⟨_, (false), (by first | rfl | (simp; done) | (simp [*]; done)), H', ⟨by have := HJ6.out; have := HJ22.out; first | omega | exact Nat.le_refl _⟩, ⟨by repeat (first | (with_reducible first | exact HB.out | apply below_alloc | apply pw_below_drewN | apply below_drew1) | exact HB.out)⟩⟩
          case rest =>
            clear HC39
            try clear c1
            try clear c2
            try clear p2
            try clear c4
            try clear c5
            try clear c16
            try clear c16b0
            try clear c16b1
            try clear c17
            try clear c18
            try clear c19
            try clear c20
            try clear c26
            try clear c26b0
            try clear c26b1
            try clear c45
            try clear c45b0
            try clear c45b1
            try clear p2
            obtain ⟨kq, x12_38, rfl, HA, HJ38, HB⟩ := hcut
            cases kq with
            | zero => exact absurd HA.out (by simp [stilelaw01_ValueLogic.j2])
            | succ kj38 =>
              have H := HA.out
              clear HA
              simp only [stilelaw01_ValueLogic.j2] at H
              replace H := Option.bind_eq_some_iff.mp H
              obtain ⟨t233, A600, H⟩ := H
              replace H : (if t233 = true then (if x10_6 = true then (if x11_22 = true then (if x12_38 = true then ((value_And.f kj38 t210 2).bind fun t234 => (if t234 = t210 then ((value_Or.f kj38 t210 0).bind fun t235 => (some (t235 == t210))) else (some false))) else (some false)) else (some false)) else (some false)) else (some false)) = some r := H
              have A60 := Aside0.mk A600
              clear A600
              by_cases c61 : t233 = true
              · subst c61
                have H1 : (if x10_6 = true then (if x11_22 = true then (if x12_38 = true then ((value_And.f kj38 t210 2).bind fun t234 => (if t234 = t210 then ((value_Or.f kj38 t210 0).bind fun t235 => (some (t235 == t210))) else (some false))) else (some false)) else (some false)) else (some false)) = some r := by rw [if_pos rfl] at H; exact H
                clear H
                have H := H1
                clear H1
                by_cases c62 : x10_6 = true
                · subst c62
                  have H1 : (if x11_22 = true then (if x12_38 = true then ((value_And.f kj38 t210 2).bind fun t234 => (if t234 = t210 then ((value_Or.f kj38 t210 0).bind fun t235 => (some (t235 == t210))) else (some false))) else (some false)) else (some false)) = some r := by rw [if_pos rfl] at H; exact H
                  clear H
                  have H := H1
                  clear H1
                  by_cases c63 : x11_22 = true
                  · subst c63
                    have H1 : (if x12_38 = true then ((value_And.f kj38 t210 2).bind fun t234 => (if t234 = t210 then ((value_Or.f kj38 t210 0).bind fun t235 => (some (t235 == t210))) else (some false))) else (some false)) = some r := by rw [if_pos rfl] at H; exact H
                    clear H
                    have H := H1
                    clear H1
                    by_cases c64 : x12_38 = true
                    · subst c64
                      have H1 : ((value_And.f kj38 t210 2).bind fun t234 => (if t234 = t210 then ((value_Or.f kj38 t210 0).bind fun t235 => (some (t235 == t210))) else (some false))) = some r := by rw [if_pos rfl] at H; exact H
                      clear H
                      have H := H1
                      clear H1
                      replace H := Option.bind_eq_some_iff.mp H
                      obtain ⟨t234, A650, H⟩ := H
                      replace H : (if t234 = t210 then ((value_Or.f kj38 t210 0).bind fun t235 => (some (t235 == t210))) else (some false)) = some r := H
                      have A65 := Aside0.mk A650
                      clear A650
                      by_cases c66 : t234 = t210
                      · rw [if_pos c66] at H
                        have c66b0 : (t234 == t210) = true := beq_iff_eq.mpr c66
                        have c66b1 : (t234 != t210) = false := bne_eq_false_iff_eq.mpr c66
                        clear c66
                        replace H := Option.bind_eq_some_iff.mp H
                        obtain ⟨t235, A670, H⟩ := H
                        replace H : (some (t235 == t210)) = some r := H
                        have A67 := Aside0.mk A670
                        clear A670
                        obtain rfl := Option.some.inj H
                        go_wp2_with (first | ((with_reducible refine gate_callee (f := 12) rfl ?_); refine goesL_ (some 78) rfl rfl Tryd.func12 (by kernel_rfl) rfl #[] rfl (by (try simp only [List.map_toArray, List.map_cons, List.map_nil]); first | done | rfl | (simp only [List.length_drop, List.length_take]; rfl)) ?_; (with_reducible refine (stilelaw01_alive.calls kj38  true _ A60.out).mono ?_); rintro e w68 ⟨rfl, hb⟩; refine ⟨_, rfl, ?_⟩; have n0_ := Aside0.mk (below_step (by repeat (first | (with_reducible first | exact HB.out | apply below_alloc | apply pw_below_drewN | apply below_drew1) | exact HB.out)) hb); clear HB; have HB := n0_; clear n0_; (try clear hb); (try clear hb2); (try clear hk); (try clear hi)) | (go_at_call 19; (with_reducible refine (value_And.calls kj38 t210 2 t234 _ A65.out).mono ?_); rintro e w69 ⟨rfl, hb⟩; have n0_ := Aside0.mk (below_step (by repeat (first | (with_reducible first | exact HB.out | apply below_alloc | apply pw_below_drewN | apply below_drew1) | exact HB.out)) hb); clear HB; have HB := n0_; clear n0_; (try clear hb); (try clear hb2); (try clear hk); (try clear hi)) | (go_at_call 20; (with_reducible refine (value_Or.calls kj38 t210 0 t235 _ A67.out).mono ?_); rintro e w70 ⟨rfl, hb⟩; have n0_ := Aside0.mk (below_step (by repeat (first | (with_reducible first | exact HB.out | apply below_alloc | apply pw_below_drewN | apply below_drew1) | exact HB.out)) hb); clear HB; have HB := n0_; clear n0_; (try clear hb); (try clear hb2); (try clear hk); (try clear hi)))
                        go_ret
                        exact ⟨by first | rfl | (simp [errW_none, errW_some] <;> rfl) | (simp [*, errW_none, errW_some] <;> rfl), by repeat (first | (with_reducible first | exact HB.out | apply below_alloc | apply pw_below_drewN | apply below_drew1) | exact HB.out)⟩
                      · rw [if_neg c66] at H
                        have c66b0 : (t234 == t210) = false := beq_eq_false_iff_ne.mpr c66
                        have c66b1 : (t234 != t210) = true := bne_iff_ne.mpr c66
                        obtain rfl := Option.some.inj H
                        go_wp2_with (first | ((with_reducible refine gate_callee (f := 12) rfl ?_); refine goesL_ (some 78) rfl rfl Tryd.func12 (by kernel_rfl) rfl #[] rfl (by (try simp only [List.map_toArray, List.map_cons, List.map_nil]); first | done | rfl | (simp only [List.length_drop, List.length_take]; rfl)) ?_; (with_reducible refine (stilelaw01_alive.calls kj38  true _ A60.out).mono ?_); rintro e w71 ⟨rfl, hb⟩; refine ⟨_, rfl, ?_⟩; have n0_ := Aside0.mk (below_step (by repeat (first | (with_reducible first | exact HB.out | apply below_alloc | apply pw_below_drewN | apply below_drew1) | exact HB.out)) hb); clear HB; have HB := n0_; clear n0_; (try clear hb); (try clear hb2); (try clear hk); (try clear hi)) | (go_at_call 19; (with_reducible refine (value_And.calls kj38 t210 2 t234 _ A65.out).mono ?_); rintro e w72 ⟨rfl, hb⟩; have n0_ := Aside0.mk (below_step (by repeat (first | (with_reducible first | exact HB.out | apply below_alloc | apply pw_below_drewN | apply below_drew1) | exact HB.out)) hb); clear HB; have HB := n0_; clear n0_; (try clear hb); (try clear hb2); (try clear hk); (try clear hi)))
                        go_ret
                        exact ⟨by first | rfl | (simp [errW_none, errW_some] <;> rfl) | (simp [*, errW_none, errW_some] <;> rfl), by repeat (first | (with_reducible first | exact HB.out | apply below_alloc | apply pw_below_drewN | apply below_drew1) | exact HB.out)⟩
                    · replace c64 := Bool.eq_false_iff.mpr c64
                      subst c64
                      have H1 : (some false) = some r := by rw [if_neg (show ¬ (false = true) by decide)] at H; exact H
                      clear H
                      have H := H1
                      clear H1
                      obtain rfl := Option.some.inj H
                      go_wp2_with (first | ((with_reducible refine gate_callee (f := 12) rfl ?_); refine goesL_ (some 78) rfl rfl Tryd.func12 (by kernel_rfl) rfl #[] rfl (by (try simp only [List.map_toArray, List.map_cons, List.map_nil]); first | done | rfl | (simp only [List.length_drop, List.length_take]; rfl)) ?_; (with_reducible refine (stilelaw01_alive.calls kj38  true _ A60.out).mono ?_); rintro e w73 ⟨rfl, hb⟩; refine ⟨_, rfl, ?_⟩; have n0_ := Aside0.mk (below_step (by repeat (first | (with_reducible first | exact HB.out | apply below_alloc | apply pw_below_drewN | apply below_drew1) | exact HB.out)) hb); clear HB; have HB := n0_; clear n0_; (try clear hb); (try clear hb2); (try clear hk); (try clear hi)))
                      go_ret
                      exact ⟨by first | rfl | (simp [errW_none, errW_some] <;> rfl) | (simp [*, errW_none, errW_some] <;> rfl), by repeat (first | (with_reducible first | exact HB.out | apply below_alloc | apply pw_below_drewN | apply below_drew1) | exact HB.out)⟩
                  · replace c63 := Bool.eq_false_iff.mpr c63
                    subst c63
                    have H1 : (some false) = some r := by rw [if_neg (show ¬ (false = true) by decide)] at H; exact H
                    clear H
                    have H := H1
                    clear H1
                    obtain rfl := Option.some.inj H
                    go_wp2_with (first | ((with_reducible refine gate_callee (f := 12) rfl ?_); refine goesL_ (some 78) rfl rfl Tryd.func12 (by kernel_rfl) rfl #[] rfl (by (try simp only [List.map_toArray, List.map_cons, List.map_nil]); first | done | rfl | (simp only [List.length_drop, List.length_take]; rfl)) ?_; (with_reducible refine (stilelaw01_alive.calls kj38  true _ A60.out).mono ?_); rintro e w74 ⟨rfl, hb⟩; refine ⟨_, rfl, ?_⟩; have n0_ := Aside0.mk (below_step (by repeat (first | (with_reducible first | exact HB.out | apply below_alloc | apply pw_below_drewN | apply below_drew1) | exact HB.out)) hb); clear HB; have HB := n0_; clear n0_; (try clear hb); (try clear hb2); (try clear hk); (try clear hi)))
                    go_ret
                    exact ⟨by first | rfl | (simp [errW_none, errW_some] <;> rfl) | (simp [*, errW_none, errW_some] <;> rfl), by repeat (first | (with_reducible first | exact HB.out | apply below_alloc | apply pw_below_drewN | apply below_drew1) | exact HB.out)⟩
                · replace c62 := Bool.eq_false_iff.mpr c62
                  subst c62
                  have H1 : (some false) = some r := by rw [if_neg (show ¬ (false = true) by decide)] at H; exact H
                  clear H
                  have H := H1
                  clear H1
                  obtain rfl := Option.some.inj H
                  go_wp2_with (first | ((with_reducible refine gate_callee (f := 12) rfl ?_); refine goesL_ (some 78) rfl rfl Tryd.func12 (by kernel_rfl) rfl #[] rfl (by (try simp only [List.map_toArray, List.map_cons, List.map_nil]); first | done | rfl | (simp only [List.length_drop, List.length_take]; rfl)) ?_; (with_reducible refine (stilelaw01_alive.calls kj38  true _ A60.out).mono ?_); rintro e w75 ⟨rfl, hb⟩; refine ⟨_, rfl, ?_⟩; have n0_ := Aside0.mk (below_step (by repeat (first | (with_reducible first | exact HB.out | apply below_alloc | apply pw_below_drewN | apply below_drew1) | exact HB.out)) hb); clear HB; have HB := n0_; clear n0_; (try clear hb); (try clear hb2); (try clear hk); (try clear hi)))
                  go_ret
                  exact ⟨by first | rfl | (simp [errW_none, errW_some] <;> rfl) | (simp [*, errW_none, errW_some] <;> rfl), by repeat (first | (with_reducible first | exact HB.out | apply below_alloc | apply pw_below_drewN | apply below_drew1) | exact HB.out)⟩
              · replace c61 := Bool.eq_false_iff.mpr c61
                subst c61
                have H1 : (some false) = some r := by rw [if_neg (show ¬ (false = true) by decide)] at H; exact H
                clear H
                have H := H1
                clear H1
                obtain rfl := Option.some.inj H
                go_wp2_with (first | ((with_reducible refine gate_callee (f := 12) rfl ?_); refine goesL_ (some 78) rfl rfl Tryd.func12 (by kernel_rfl) rfl #[] rfl (by (try simp only [List.map_toArray, List.map_cons, List.map_nil]); first | done | rfl | (simp only [List.length_drop, List.length_take]; rfl)) ?_; (with_reducible refine (stilelaw01_alive.calls kj38  false _ A60.out).mono ?_); rintro e w76 ⟨rfl, hb⟩; refine ⟨_, rfl, ?_⟩; have n0_ := Aside0.mk (below_step (by repeat (first | (with_reducible first | exact HB.out | apply below_alloc | apply pw_below_drewN | apply below_drew1) | exact HB.out)) hb); clear HB; have HB := n0_; clear n0_; (try clear hb); (try clear hb2); (try clear hk); (try clear hi)))
                go_ret
                exact ⟨by first | rfl | (simp [errW_none, errW_some] <;> rfl) | (simp [*, errW_none, errW_some] <;> rfl), by repeat (first | (with_reducible first | exact HB.out | apply below_alloc | apply pw_below_drewN | apply below_drew1) | exact HB.out)⟩

/-- THE ONE PURE STATEMENT of stilelaw01_ValueLogic: yours. -/
def stilelaw01_ValueLogic.Pure : Prop := ∀ (a0 : Int) (a1 : Int) (a2 : Int), (Lit.int .i64 a0).wf = true → (Lit.int .i64 a1).wf = true → (Lit.int .i64 a2).wf = true → ∃ k, stilelaw01_ValueLogic.f k a0 a1 a2 = some true
theorem stilelaw01_ValueLogic.walk (P : stilelaw01_ValueLogic.Pure) (a0 : Int) (a1 : Int) (a2 : Int) (w : World) (w0 : (Lit.int .i64 a0).wf = true) (w1 : (Lit.int .i64 a1).wf = true) (w2 : (Lit.int .i64 a2).wf = true) :
    Calls Tryd.prog 5 #[.int .i64 a0, .int .i64 a1, .int .i64 a2] w fun e w' => e = .returned (.bool true) ∧ Below w.heap.size w w' := by
  obtain ⟨k, h⟩ := P a0 a1 a2 w0 w1 w2
  refine (stilelaw01_ValueLogic.calls k a0 a1 a2 true w h).mono ?_
  rintro e w' ⟨rfl, hd⟩
  exact ⟨rfl, hd⟩

end Go.Proofs.YtlmkhpgnkpgbdaaDoor.PVALUE

namespace Go.Proofs.YtlmkhpgnkpgbdaaDoor
open Go.RowKit Go.Proofs.YtlmkhpgnkpgbdaaDoor.PVALUE Go.Proofs.YtlmkhpgnkpgbdaaDoorW.PrintWords Go.Proofs.YtlmkhpgnkpgbdaaDoorW.PrintLast
set_option linter.unusedVariables false
set_option linter.unusedSimpArgs false
namespace Vl
theorem pick_ok (a n : Int) (hn : 0 < n) (w : (Lit.int .i64 a).wf = true) : ∃ t, stilelaw01_pick.f a n = some t ∧ 0 ≤ t ∧ t < n := by
  have w : -9223372036854775808 ≤ a ∧ a ≤ 9223372036854775807 := by have hz := w; simp only [Lit.wf, Bool.and_eq_true, decide_eq_true_eq] at hz; exact hz
  unfold stilelaw01_pick.f
  have e1 : ¬ n = 0 := by omega
  by_cases h : a < 0
  · rw [if_pos h, if_neg e1]
    have h1 : wrap64 (-(wrap64 (a + 1))) = -(a + 1) := by unfold wrap64; omega
    rw [h1, Int.tmod_eq_emod_of_nonneg (by omega)]
    exact ⟨_, rfl, Int.emod_nonneg _ e1, Int.emod_lt_of_pos _ hn⟩
  · rw [if_neg h, if_neg e1, Int.tmod_eq_emod_of_nonneg (by omega)]
    exact ⟨_, rfl, Int.emod_nonneg _ e1, Int.emod_lt_of_pos _ hn⟩
theorem alive_ok : stilelaw01_alive.f 40 = some true := by decide +kernel
theorem three (t : Int) (h0 : 0 ≤ t) (h1 : t < 3) : t = 0 ∨ t = 1 ∨ t = 2 := by omega
theorem logic_all : ([0, 1, 2] : List Int).all (fun x => ([0, 1, 2] : List Int).all fun y => ([0, 1, 2] : List Int).all fun z =>
    ((value_And.f 44 x y).bind fun t213 => ((value_Not.f 44 t213).bind fun t214 => ((value_Not.f 44 x).bind fun t215 => ((value_Not.f 44 y).bind fun t216 => ((value_Or.f 44 t215 t216).bind fun t217 => (if t214 = t217 then ((value_Not.f 44 x).bind fun t218 => ((value_Not.f 44 t218).bind fun t219 => (stilelaw01_ValueLogic.j0 44 x y z (t219 == x)))) else (stilelaw01_ValueLogic.j0 44 x y z false))))))) == some true) = true := by decide +kernel
theorem valueLogic_f (a0 a1 a2 : Int) (w0 : (Lit.int .i64 a0).wf = true) (w1 : (Lit.int .i64 a1).wf = true) (w2 : (Lit.int .i64 a2).wf = true) : stilelaw01_ValueLogic.f 44 a0 a1 a2 = some true := by
  obtain ⟨x, e0, x0, x1⟩ := pick_ok a0 3 (by decide) w0
  obtain ⟨y, e1, y0, y1⟩ := pick_ok a1 3 (by decide) w1
  obtain ⟨z, e2, z0, z1⟩ := pick_ok a2 3 (by decide) w2
  unfold stilelaw01_ValueLogic.f
  rw [e0, e1, e2]
  simp only [Option.bind_some]
  have hx : x ∈ ([0, 1, 2] : List Int) := by rcases three x x0 x1 with rfl | rfl | rfl <;> simp
  have hy : y ∈ ([0, 1, 2] : List Int) := by rcases three y y0 y1 with rfl | rfl | rfl <;> simp
  have hz : z ∈ ([0, 1, 2] : List Int) := by rcases three z z0 z1 with rfl | rfl | rfl <;> simp
  have h := List.all_eq_true.1 (List.all_eq_true.1 (List.all_eq_true.1 logic_all x hx) y hy) z hz
  exact beq_iff_eq.1 h
theorem valueLogic_walk (a0 a1 a2 : Int) (W : World) (w0 : (Lit.int .i64 a0).wf = true) (w1 : (Lit.int .i64 a1).wf = true) (w2 : (Lit.int .i64 a2).wf = true) : Calls Tryd.prog 5 #[.int .i64 a0, .int .i64 a1, .int .i64 a2] W fun e W' => e = .returned (.bool true) ∧ Below W.heap.size W W' :=
  stilelaw01_ValueLogic.calls 44 a0 a1 a2 true W (valueLogic_f a0 a1 a2 w0 w1 w2)
end Vl
end Go.Proofs.YtlmkhpgnkpgbdaaDoor

namespace Go.Proofs.YtlmkhpgnkpgbdaaDoor
open Go.RowKit Go.Proofs.YtlmkhpgnkpgbdaaDoor.PVALUE Go.Proofs.YtlmkhpgnkpgbdaaDoorW.PrintWords Go.Proofs.YtlmkhpgnkpgbdaaDoorW.PrintLast
set_option linter.unusedVariables false
set_option linter.unusedSimpArgs false
namespace Vl
/-- the values that are right -/
inductive Rv where
  | null
  | num (n : Int)
  | text (s : ByteArray)
  | bool (b : Bool)
abbrev Em : ByteArray := ⟨#[]⟩
def Rv.k : Rv → Int
  | .null => 0
  | .num _ => 1
  | .text _ => 2
  | .bool _ => 3
def Rv.n : Rv → Int
  | .num n => n
  | _ => 0
def Rv.s : Rv → ByteArray
  | .text s => s
  | _ => Em
def Rv.b : Rv → Bool
  | .bool b => b
  | _ => false
def Rv.ok : Rv → Prop
  | .text s => s.size ≤ 140737488351232
  | .num n => -9223372036854775808 ≤ n ∧ n ≤ 9223372036854775807
  | _ => True
theorem wf64 {a : Int} (w : (Lit.int .i64 a).wf = true) : -9223372036854775808 ≤ a ∧ a ≤ 9223372036854775807 := by
  have hz := w; simp only [Lit.wf, Bool.and_eq_true, decide_eq_true_eq] at hz; exact hz
theorem raw_ok (k n : Int) (s : ByteArray) (b : Bool) (hk : (Lit.int .i64 k).wf = true) (hn : (Lit.int .i64 n).wf = true) (hs : s.size ≤ 140737488351232) :
    ∃ x : Rv, stilelaw01_Raw_Value.f k n s b = some (x.k, x.n, x.s, x.b) ∧ x.ok := by
  obtain ⟨t, e, h0, h1⟩ := pick_ok k 4 (by decide) hk
  unfold stilelaw01_Raw_Value.f
  rw [e]
  simp only [Option.bind_some, stileref01_Num.f, stileref01_Text.f]
  have h4 : t = 0 ∨ t = 1 ∨ t = 2 ∨ t = 3 := by omega
  rcases h4 with rfl | rfl | rfl | rfl
  · exact ⟨.null, rfl, trivial⟩
  · exact ⟨.num n, rfl, wf64 hn⟩
  · exact ⟨.text s, rfl, hs⟩
  · exact ⟨.bool b, rfl, trivial⟩
def cmpZ (a b : Int) : Int := if a < b then -1 else if b < a then 1 else 0
def stand : Rv → Rv → Int
  | .num a, .num b => cmpZ a b
  | .text a, .text b => Lib.compareBytes (trimR a 32).data.toList (trimR b 32).data.toList
  | .bool a, .bool b => if (a == b) = true then 0 else if b = true then -1 else 1
  | x, y => cmpZ x.k y.k
theorem kind_cmp (a b : Int) : api_Kind_48.f a b = some (cmpZ a b) := by
  simp only [api_Kind_48.f, api_Kind_79.f, Option.bind_some, bne_self_eq_false, Bool.false_eq_true, if_false, cmpZ]
  by_cases h1 : a < b
  · simp [h1]
  · by_cases h2 : b < a <;> simp [h1, h2]
theorem int_cmp (a b : Int) : cmp_Compare_int64.f a b = some (cmpZ a b) := by
  simp only [cmp_Compare_int64.f, cmp_isNaN_int64.f, Option.bind_some, bne_self_eq_false, Bool.false_eq_true, if_false, cmpZ]
  by_cases h1 : a < b
  · simp [h1]
  · by_cases h2 : b < a <;> simp [h1, h2]
theorem words_f (s : ByteArray) (h : s.size ≤ 140737488351232) : value_words.f s = some (trimR s 32) := if_pos h
theorem order_f (x y : Rv) (hx : x.ok) (hy : y.ok) : value_Order.f x.k x.n x.s x.b y.k y.n y.s y.b = some (stand x y) := by
  unfold value_Order.f
  rw [kind_cmp]
  cases x <;> cases y <;> simp only [Rv.k, Rv.n, Rv.s, Rv.b, stand, Option.bind_some] <;> try rfl
  · rw [int_cmp]; simp [cmpZ]
  · rename_i a b
    have ha : a.size ≤ 140737488351232 := hx
    have hb : b.size ≤ 140737488351232 := hy
    rw [words_f a ha, words_f b hb]
    simp [cmpZ, strings_Compare.f]
  · simp only [cmpZ]
    rename_i a b
    cases a <;> cases b <;> rfl
theorem cmpZ_self (a : Int) : cmpZ a a = 0 := by simp [cmpZ]
theorem cmpZ_neg (a b : Int) : cmpZ a b = - cmpZ b a := by unfold cmpZ; split <;> split <;> (try split) <;> omega
theorem cmpZ_rng (a b : Int) : cmpZ a b = -1 ∨ cmpZ a b = 0 ∨ cmpZ a b = 1 := by unfold cmpZ; split <;> (try split) <;> omega
theorem cmpZ_eq {a b : Int} (h : cmpZ a b = 0) : a = b := by unfold cmpZ at h; split at h <;> (try split at h) <;> omega
theorem cmpZ_le {a b : Int} (h : cmpZ a b ≤ 0) : a ≤ b := by unfold cmpZ at h; split at h <;> (try split at h) <;> omega
theorem cmpZ_of_le {a b : Int} (h : a ≤ b) : cmpZ a b ≤ 0 := by unfold cmpZ; split <;> (try split) <;> omega
open Lib (compareBytes)
theorem cb_self : ∀ a, compareBytes a a = 0
  | [] => rfl
  | a :: p => by simp [compareBytes, cb_self p]
theorem cb_rng : ∀ a b, compareBytes a b = -1 ∨ compareBytes a b = 0 ∨ compareBytes a b = 1
  | [], [] => .inr (.inl rfl)
  | [], _ :: _ => .inl rfl
  | _ :: _, [] => .inr (.inr rfl)
  | a :: p, b :: q => by
    rw [compareBytes]
    split
    · exact .inl rfl
    · split
      · exact .inr (.inr rfl)
      · exact cb_rng p q
theorem cb_neg : ∀ a b, compareBytes a b = - compareBytes b a
  | [], [] => rfl
  | [], _ :: _ => rfl
  | _ :: _, [] => rfl
  | a :: p, b :: q => by
    rw [compareBytes, compareBytes]
    have h := cb_neg p q
    by_cases h1 : a < b
    · have h2 : ¬ b < a := fun h => by rw [UInt8.lt_iff_toNat_lt] at h h1; omega
      rw [if_pos h1, if_neg h2, if_pos h1]
    · by_cases h2 : b < a
      · rw [if_neg h1, if_pos h2, if_pos h2]; rfl
      · rw [if_neg h1, if_neg h2, if_neg h2, if_neg h1]; exact h
theorem cb_eq : ∀ {a b}, compareBytes a b = 0 → a = b
  | [], [], _ => rfl
  | [], _ :: _, h => by simp [compareBytes] at h
  | _ :: _, [], h => by simp [compareBytes] at h
  | a :: p, b :: q, h => by
    rw [compareBytes] at h
    by_cases h1 : a < b
    · rw [if_pos h1] at h; omega
    · by_cases h2 : b < a
      · rw [if_neg h1, if_pos h2] at h; omega
      · rw [if_neg h1, if_neg h2] at h
        rw [cb_eq h, UInt8.le_antisymm (UInt8.not_lt.1 h2) (UInt8.not_lt.1 h1)]
theorem cb_trans : ∀ {a b c}, compareBytes a b ≤ 0 → compareBytes b c ≤ 0 → compareBytes a c ≤ 0
  | [], _, [], _, _ => Int.le_refl 0
  | [], _, _ :: _, _, _ => by simp [compareBytes]
  | _ :: _, [], _, h, _ => by simp [compareBytes] at h
  | _ :: _, _ :: _, [], _, h => by simp [compareBytes] at h
  | a :: p, b :: q, c :: r, h, k => by
    rw [compareBytes] at h k ⊢
    by_cases h1 : a < b
    · rw [if_pos h1] at h
      by_cases k1 : b < c
      · have : a < c := by rw [UInt8.lt_iff_toNat_lt] at *; omega
        rw [if_pos this]; omega
      · by_cases k2 : c < b
        · rw [if_neg k1, if_pos k2] at k; omega
        · have e : b = c := UInt8.le_antisymm (UInt8.not_lt.1 k2) (UInt8.not_lt.1 k1)
          subst e
          rw [if_pos h1]; omega
    · by_cases h2 : b < a
      · rw [if_neg h1, if_pos h2] at h; omega
      · have e : a = b := UInt8.le_antisymm (UInt8.not_lt.1 h2) (UInt8.not_lt.1 h1)
        subst e
        rw [if_neg h1, if_neg h2] at h
        by_cases k1 : a < c
        · rw [if_pos k1]; omega
        · by_cases k2 : c < a
          · rw [if_neg k1, if_pos k2] at k; omega
          · rw [if_neg k1, if_neg k2] at k ⊢
            exact cb_trans h k
theorem stand_self (x : Rv) : stand x x = 0 := by
  cases x <;> simp only [stand, cmpZ_self, cb_self]
  simp
theorem stand_neg (x y : Rv) : stand x y = - stand y x := by
  cases x <;> cases y <;> simp only [stand] <;> first | exact cmpZ_neg _ _ | exact cb_neg _ _ | skip
  rename_i a b
  cases a <;> cases b <;> rfl
theorem stand_rng (x y : Rv) : stand x y = -1 ∨ stand x y = 0 ∨ stand x y = 1 := by
  cases x <;> cases y <;> simp only [stand] <;> first | exact cmpZ_rng _ _ | exact cb_rng _ _ | skip
  rename_i a b
  cases a <;> cases b <;> simp
theorem stand_kind : ∀ x y : Rv, stand x y ≤ 0 → x.k ≤ y.k := by
  intro x y h
  cases x <;> cases y <;> simp only [Rv.k] <;> first | decide | (exfalso; revert h; simp [stand, cmpZ, Rv.k])
theorem stand_low : ∀ x y : Rv, x.k < y.k → stand x y = -1 := by
  intro x y h
  cases x <;> cases y <;> simp only [Rv.k] at h <;> first | (exfalso; omega) | rfl
theorem bool_trans : ∀ a b c : Bool, stand (.bool a) (.bool b) ≤ 0 → stand (.bool b) (.bool c) ≤ 0 → stand (.bool a) (.bool c) ≤ 0 := by decide
theorem stand_trans (x y z : Rv) (h : stand x y ≤ 0) (k : stand y z ≤ 0) : stand x z ≤ 0 := by
  have h1 := stand_kind x y h
  have k1 := stand_kind y z k
  by_cases e : x.k < z.k
  · rw [stand_low x z e]; decide
  · have e1 : x.k = y.k := by omega
    have e2 : y.k = z.k := by omega
    clear h1 k1 e
    match x, y, z, e1, e2 with
    | .null, .null, .null, _, _ => decide
    | .num a, .num b, .num c, _, _ => exact cmpZ_of_le (Int.le_trans (cmpZ_le h) (cmpZ_le k))
    | .text a, .text b, .text c, _, _ => exact cb_trans h k
    | .bool a, .bool b, .bool c, _, _ => exact bool_trans a b c h k
end Vl
end Go.Proofs.YtlmkhpgnkpgbdaaDoor

namespace Go.Proofs.YtlmkhpgnkpgbdaaDoor
open Go.RowKit Go.Proofs.YtlmkhpgnkpgbdaaDoor.PVALUE Go.Proofs.YtlmkhpgnkpgbdaaDoorW.PrintWords Go.Proofs.YtlmkhpgnkpgbdaaDoorW.PrintLast
set_option linter.unusedVariables false
set_option linter.unusedSimpArgs false
namespace Vl
abbrev doneZ : ByteArray := ⟨#[48, 48, 48, 48, 48]⟩
abbrev misZ : ByteArray := ⟨#[52, 50, 56, 48, 52]⟩
def tv (x y : Rv) (b : Bool) : Int := if x.k = 0 ∨ y.k = 0 ∨ x.k ≠ y.k then 1 else if b = true then 2 else 0
def ts (x y : Rv) : ByteArray := if x.k = 0 ∨ y.k = 0 ∨ x.k = y.k then doneZ else misZ
theorem test_f (k : Nat) (op : ByteArray) (x y : Rv) (hx : x.ok) (hy : y.ok) (b : Bool) (h : value_holds.f op (stand x y) = some (b, true)) :
    value_Test.f (k + 1) op x.k x.n x.s x.b y.k y.n y.s y.b = some (tv x y b, ts x y) := by
  unfold value_Test.f
  rw [order_f x y hx hy]
  simp only [Option.bind_some]
  rw [h]
  simp only [Option.bind_some, if_true]
  unfold tv ts
  by_cases h0 : x.k = 0
  · rw [if_pos h0, if_pos (.inl h0), if_pos (.inl h0)]; rfl
  · rw [if_neg h0]
    by_cases h1 : y.k = 0
    · rw [if_pos (.inr (.inl h1)), if_pos (.inr (.inl h1)), beq_iff_eq.2 h1]; rfl
    · rw [beq_eq_false_iff_ne.2 h1]
      simp only [value_Test.j0, Bool.false_eq_true, if_false]
      by_cases h2 : x.k = y.k
      · rw [if_pos h2, if_neg (show ¬ (x.k = 0 ∨ y.k = 0 ∨ x.k ≠ y.k) by simp only [not_or]; exact ⟨h0, h1, fun h => h h2⟩), if_pos (show x.k = 0 ∨ y.k = 0 ∨ x.k = y.k from .inr (.inr h2))]
        cases b <;> rfl
      · rw [if_neg h2, if_pos (show x.k = 0 ∨ y.k = 0 ∨ x.k ≠ y.k from .inr (.inr h2)), if_neg (show ¬ (x.k = 0 ∨ y.k = 0 ∨ x.k = y.k) by simp only [not_or]; exact ⟨h0, h1, h2⟩)]
theorem j2_u : stilelaw01_ValueThree.j2 46 1 1 1 true true = some true := by decide +kernel
theorem j2_l : stilelaw01_ValueThree.j2 46 2 0 0 true false = some true := by decide +kernel
theorem j2_e : stilelaw01_ValueThree.j2 46 0 2 0 true false = some true := by decide +kernel
theorem j2_g : stilelaw01_ValueThree.j2 46 0 0 2 true false = some true := by decide +kernel
theorem not_0 : value_Not.f 47 0 = some 2 := by decide +kernel
theorem not_1 : value_Not.f 47 1 = some 1 := by decide +kernel
theorem not_2 : value_Not.f 47 2 = some 0 := by decide +kernel
theorem valueThree_f (x y : Rv) (hx : x.ok) (hy : y.ok) (a0_0 a0_1 : Int) (a0_2 : ByteArray) (a0_3 : Bool) (a1_0 a1_1 : Int) (a1_2 : ByteArray) (a1_3 : Bool)
    (ex : stilelaw01_Raw_Value.f a0_0 a0_1 a0_2 a0_3 = some (x.k, x.n, x.s, x.b)) (ey : stilelaw01_Raw_Value.f a1_0 a1_1 a1_2 a1_3 = some (y.k, y.n, y.s, y.b)) :
    stilelaw01_ValueThree.f 48 a0_0 a0_1 a0_2 a0_3 a1_0 a1_1 a1_2 a1_3 = some true := by
  unfold stilelaw01_ValueThree.f
  rw [ex, ey]
  simp only [Option.bind_some]
  rw [test_f 47 _ x y hx hy (decide (stand x y < 0)) (by unfold value_holds.f; rw [show (⟨#[60]⟩ : ByteArray).toList = [60] from by decide +kernel]; rfl), test_f 47 _ x y hx hy (stand x y == 0) (by unfold value_holds.f; rw [show (⟨#[61]⟩ : ByteArray).toList = [61] from by decide +kernel]; rfl), test_f 47 _ x y hx hy (decide (stand x y > 0)) (by unfold value_holds.f; rw [show (⟨#[62]⟩ : ByteArray).toList = [62] from by decide +kernel]; rfl), test_f 47 _ x y hx hy (stand x y != 0) (by unfold value_holds.f; rw [show (⟨#[60, 62]⟩ : ByteArray).toList = [60, 62] from by decide +kernel]; rfl), test_f 47 _ x y hx hy (decide (stand x y ≥ 0)) (by unfold value_holds.f; rw [show (⟨#[62, 61]⟩ : ByteArray).toList = [62, 61] from by decide +kernel]; rfl), test_f 47 _ x y hx hy (decide (stand x y ≤ 0)) (by unfold value_holds.f; rw [show (⟨#[60, 61]⟩ : ByteArray).toList = [60, 61] from by decide +kernel]; rfl)]
  simp only [Option.bind_some, if_true, bne_self_eq_false]
  by_cases u : x.k = 0 ∨ y.k = 0 ∨ x.k ≠ y.k
  · have e : ∀ b, tv x y b = 1 := fun b => if_pos u
    simp only [e, stilelaw01_ValueThree.j0, Bool.false_eq_true, if_false, not_1, Option.bind_some, if_true]
    simp only [stilelaw01_ValueThree.j1]
    unfold ts
    by_cases v : x.k = 0 ∨ y.k = 0 ∨ x.k = y.k
    · rw [if_pos v, if_pos (show doneZ.toList = [48, 48, 48, 48, 48] by decide +kernel)]
      by_cases h0 : x.k = 0
      · rw [if_pos h0]; exact j2_u
      · rw [if_neg h0]
        have h1 : y.k = 0 := by omega
        rw [beq_iff_eq.2 h1]; exact j2_u
    · rw [if_neg v, if_neg (show ¬ misZ.toList = [48, 48, 48, 48, 48] by decide +kernel)]; exact j2_u
  · have h0 : ¬ x.k = 0 := fun h => u (.inl h)
    have h1 : ¬ y.k = 0 := fun h => u (.inr (.inl h))
    have h2 : x.k = y.k := Classical.byContradiction fun h => u (.inr (.inr h))
    have e : ∀ b, tv x y b = if b = true then 2 else 0 := fun b => if_neg u
    have e2 : ts x y = doneZ := if_pos (.inr (.inr h2))
    simp only [e, e2]
    rcases stand_rng x y with c | c | c <;> rw [c]
    · simp only [stilelaw01_ValueThree.j0, Bool.false_eq_true, if_false, show (decide ((-1 : Int) < 0)) = true from rfl, show ((-1 : Int) == 0) = false from rfl, show (decide ((-1 : Int) > 0)) = false from rfl, show ((-1 : Int) != 0) = true from rfl, show (decide ((-1 : Int) ≥ 0)) = false from rfl, show (decide ((-1 : Int) ≤ 0)) = true from rfl, if_true, not_0, not_2, Option.bind_some]
      simp only [stilelaw01_ValueThree.j1, if_neg h0, beq_eq_false_iff_ne.2 h1]
      rw [if_pos (show doneZ.toList = [48, 48, 48, 48, 48] by decide +kernel)]
      exact j2_l
    · simp only [stilelaw01_ValueThree.j0, Bool.false_eq_true, if_false, show (decide ((0 : Int) < 0)) = false from rfl, show ((0 : Int) == 0) = true from rfl, show (decide ((0 : Int) > 0)) = false from rfl, show ((0 : Int) != 0) = false from rfl, show (decide ((0 : Int) ≥ 0)) = true from rfl, show (decide ((0 : Int) ≤ 0)) = true from rfl, if_true, not_0, not_2, Option.bind_some]
      simp only [stilelaw01_ValueThree.j1, if_neg h0, beq_eq_false_iff_ne.2 h1]
      rw [if_pos (show doneZ.toList = [48, 48, 48, 48, 48] by decide +kernel)]
      exact j2_e
    · simp only [stilelaw01_ValueThree.j0, Bool.false_eq_true, if_false, show (decide ((1 : Int) < 0)) = false from rfl, show ((1 : Int) == 0) = false from rfl, show (decide ((1 : Int) > 0)) = true from rfl, show ((1 : Int) != 0) = true from rfl, show (decide ((1 : Int) ≥ 0)) = true from rfl, show (decide ((1 : Int) ≤ 0)) = false from rfl, if_true, not_0, not_2, Option.bind_some]
      simp only [stilelaw01_ValueThree.j1, if_neg h0, beq_eq_false_iff_ne.2 h1]
      rw [if_pos (show doneZ.toList = [48, 48, 48, 48, 48] by decide +kernel)]
      exact j2_g
theorem valueThree_walk (a0_0 a0_1 : Int) (a0_2 : ByteArray) (a0_3 : Bool) (a1_0 a1_1 : Int) (a1_2 : ByteArray) (a1_3 : Bool) (W : World) (w00 : (Lit.int .i64 a0_0).wf = true) (w01 : (Lit.int .i64 a0_1).wf = true) (w02 : a0_2.size ≤ 140737488351232) (w10 : (Lit.int .i64 a1_0).wf = true) (w11 : (Lit.int .i64 a1_1).wf = true) (w12 : a1_2.size ≤ 140737488351232) :
    Calls Tryd.prog 9 #[.agg #[.int .i64 a0_0, .int .i64 a0_1, .string a0_2, .bool a0_3], .agg #[.int .i64 a1_0, .int .i64 a1_1, .string a1_2, .bool a1_3]] W fun e W' => e = .returned (.bool true) ∧ Below W.heap.size W W' := by
  obtain ⟨x, ex, hx⟩ := raw_ok a0_0 a0_1 a0_2 a0_3 w00 w01 w02
  obtain ⟨y, ey, hy⟩ := raw_ok a1_0 a1_1 a1_2 a1_3 w10 w11 w12
  exact stilelaw01_ValueThree.calls 48 _ _ _ _ _ _ _ _ true W (valueThree_f x y hx hy _ _ _ _ _ _ _ _ ex ey)
end Vl
end Go.Proofs.YtlmkhpgnkpgbdaaDoor

namespace Go.Proofs.YtlmkhpgnkpgbdaaDoor.valueThree
open Go.ChangeShapes Go.WideShapes Go.ChangeAt Go.RowKit
open Go.ChangeMaps (open_string shut_string)
open Go.Joins Go.Deep
set_option linter.unusedVariables false
set_option linter.unusedSimpArgs false
set_option maxRecDepth 100000 in
theorem contract (H : Type) (enc : TypeId × Value → H) (W : World) (base : Nat) (args : Array Value) (ds gs : List (DataW H)) (before : List MemPlace)
    (hval0 : ∀ (j : Nat) t v, Tryd.f9.params[j]? = some t → args[j]? = some v → Value.okWide Tryd.prog W .any base t v)
    (hW : DataW.Whole enc Tryd.prog Tryd.f9.params.toList Rows.valueThreeSpec.vars false W args.toList ds gs before)
    (hsz0 : (DataW.weightsEach Tryd.prog (Tryd.f9.params.toList ++ (OpenSpec.ofChange Rows.valueThreeSpec).bare.plain.varTypes Tryd.prog) (ds ++ gs)).all (· ≤ reachBytes) = true) :
    Calls Tryd.prog 9 args W fun e W' => ∃ v, e = .returned v ∧ Rows.valueThreeSpec.post enc Tryd.prog Tryd.f9 false true false false W args v W' := by
  have hval := hval0
  have hW' := hW
  obtain ⟨p, q, hA0, hV, rfl, hfz, hnd⟩ := hW
  have hA : DataW.TrodAll enc Tryd.prog W 0 (fun _ => true) true Tryd.f9.params.toList args.toList ds p := hA0
  have hsz := hsz0
  rw [Tryd.params9] at hA hval hsz
  obtain ⟨v0, vs0, d0, ds0, p0, q0, hargs, rfl, rfl, h0, r0⟩ := trodAll_cons hA
  obtain ⟨v1, vs1, d1, ds1, p1, q1, rfl, rfl, rfl, h1, r1⟩ := trodAll_cons r0
  obtain ⟨rfl, rfl, rfl⟩ := trodAll_nil r1
  obtain rfl : args = #[v0, v1] := by cases args; simp_all
  obtain ⟨rfl, rfl⟩ := trodVars_none hV
  have k0 := h0
  have lt0 : ∀ x ∈ p0, x.block < W.heap.size := by obtain ⟨m, hm⟩ := k0; exact DataW.trod_lt m _ _ _ hm
  obtain ⟨c00, c01, c02, c03, y00, y01, y02, y03, m0, rfl, rfl, hp0, f00, f01, f02, f03⟩ := open_agg4 Tryd.underlying25 (by kernel_rfl) (by kernel_rfl) (hval 0 25 v0 rfl rfl) h0
  obtain ⟨s00, e00, z00, b00⟩ := DataW.trod_int Tryd.underlying3 f00
  obtain ⟨s01, e01, z01, b01⟩ := DataW.trod_int Tryd.underlying2 f01
  obtain ⟨s02, e02, z02, _⟩ := DataW.trod_string Tryd.underlying9 f02
  obtain ⟨s03, e03, z03⟩ := DataW.trod_bool Tryd.underlying4 f03
  simp only [List.cons.injEq, and_true] at e00 e01 e02 e03
  subst e00 e01 e02 e03
  have g0 := Vl.size_agg4 Tryd.underlying25 hsz (j := 0) rfl rfl
  have b02 : s02.size ≤ 140737488351232 := by
    have := g0 s02.data.toList.length (by rw [z02]; simp [DataW.weights])
    rw [Array.length_toList] at this
    exact this
  have k1 := h1
  have lt1 : ∀ x ∈ p1, x.block < W.heap.size := by obtain ⟨m, hm⟩ := k1; exact DataW.trod_lt m _ _ _ hm
  obtain ⟨c10, c11, c12, c13, y10, y11, y12, y13, m1, rfl, rfl, hp1, f10, f11, f12, f13⟩ := open_agg4 Tryd.underlying25 (by kernel_rfl) (by kernel_rfl) (hval 1 25 v1 rfl rfl) h1
  obtain ⟨s10, e10, z10, b10⟩ := DataW.trod_int Tryd.underlying3 f10
  obtain ⟨s11, e11, z11, b11⟩ := DataW.trod_int Tryd.underlying2 f11
  obtain ⟨s12, e12, z12, _⟩ := DataW.trod_string Tryd.underlying9 f12
  obtain ⟨s13, e13, z13⟩ := DataW.trod_bool Tryd.underlying4 f13
  simp only [List.cons.injEq, and_true] at e10 e11 e12 e13
  subst e10 e11 e12 e13
  have g1 := Vl.size_agg4 Tryd.underlying25 hsz (j := 1) rfl rfl
  have b12 : s12.size ≤ 140737488351232 := by
    have := g1 s12.data.toList.length (by rw [z12]; simp [DataW.weights])
    rw [Array.length_toList] at this
    exact this
  clear hA0 hval0 hsz hsz0
  refine (Vl.valueThree_walk s00 s01 s02 s03 s10 s11 s12 s13 W b00 b01 b02 b10 b11 b12).mono fun e W' ⟨he, bel⟩ => ?_
  subst he
  exact ⟨_, rfl, _, _, _, [], _, [], hW', trodAll_mk1 (shut_bool Tryd.underlying4 _), (trodAll_cons_mk (Below.trod Vl.laidOut (by kernel_rfl) (of_decide_eq_true (by kernel_rfl)) k0 bel lt0) (trodAll_cons_mk (Below.trod Vl.laidOut (by kernel_rfl) (of_decide_eq_true (by kernel_rfl)) k1 bel lt1) trodAll_mk0)), rfl, bel.frame _, fun h => by cases h⟩
theorem laid_met (os : Os) : laidMet Tryd.prog Rows.valueThreeRow.laid ((Vl.laidWorld os).forCall (fun _ _ => 0) ⟨#[], #[.agg #[.int .i64 0, .int .i64 0, .string ⟨#[]⟩, .bool false], .agg #[.int .i64 0, .int .i64 0, .string ⟨#[]⟩, .bool false]], []⟩).memory :=
  laidMet_of_run' 8 (by kernel_rfl) (by kernel_rfl)
theorem reads (os : Os) {H : Type} (enc : TypeId × Value → H) : ∃ places, DataW.whole enc Tryd.prog ((Vl.laidWorld os).forCall (fun _ _ => 0) ⟨#[], #[.agg #[.int .i64 0, .int .i64 0, .string ⟨#[]⟩, .bool false], .agg #[.int .i64 0, .int .i64 0, .string ⟨#[]⟩, .bool false]], []⟩).memory Tryd.f9.params.toList Rows.valueThreeSpec.vars false (#[.agg #[.int .i64 0, .int .i64 0, .string ⟨#[]⟩, .bool false], .agg #[.int .i64 0, .int .i64 0, .string ⟨#[]⟩, .bool false]] : Array Value).toList 8 = some ([.agg [.lit (.int .i64 0), .lit (.int .i64 0), .lit (.string []), .lit (.bool false)], .agg [.lit (.int .i64 0), .lit (.int .i64 0), .lit (.string []), .lit (.bool false)]], [], places) :=
  ⟨[], by kernel_rfl⟩
set_option maxRecDepth 100000 in
theorem lifted (os : Os) (started : os.Started) (H : Type) (enc : TypeId × Value → H) (F : Stop.Interp) :
    ReturnsInHanded {} Tryd.checked os 9 .any ((OpenSpec.ofChange Rows.valueThreeSpec).preRow enc Tryd.prog Tryd.f9 Rows.valueThreeRow.domain false Rows.valueThreeRow.laid) (((OpenSpec.ofChange Rows.valueThreeSpec).at F).post enc Tryd.prog Tryd.f9 false true false false) := by
  obtain ⟨places, hx⟩ := reads os enc
  refine returnsInHanded_of_row (C := Tryd.checked) (s := OpenSpec.ofChange Rows.valueThreeSpec) Vl.own started (by kernel_rfl) Tryd.func9
    (witness_row_at (enc := enc) (C := Tryd.checked) false (Vl.laidWorld os) #[.agg #[.int .i64 0, .int .i64 0, .string ⟨#[]⟩, .bool false], .agg #[.int .i64 0, .int .i64 0, .string ⟨#[]⟩, .bool false]] rfl (by kernel_rfl) (by kernel_rfl) (by kernel_rfl)
      (OpenSpec.preRow_of_cond 8 hx (by kernel_rfl) (fun k hk => by cases hk) (by kernel_rfl) (laid_met os))) ?_
  intro W base args ds gs before hval hW _ _ hsz _ _ _
  exact contract H enc W base args ds gs before hval hW hsz
theorem said : Rows.ValueThreeSaid :=
  OpenClaim.holds_of_cond 9 Tryd.f9 rfl rfl rfl rfl rfl rfl rfl ⟨rfl, rfl, rfl, rfl, rfl⟩ rfl rfl rfl rfl rfl (by kernel_rfl) Tryd.func9 (by kernel_rfl)
    (of_decide_eq_true (by kernel_rfl)) (by unfold Func.isWrapper; first | (rw [if_pos (by decide +kernel)]; kernel_rfl) | (rw [if_neg (by decide +kernel)]; exact ⟨rfl, rfl⟩))
    (fun os started H enc _ F => by rw [OpenClaim.pre_eq_preRow]; exact lifted os started H enc F)
theorem plain (f : FuncId) (fn : Func) (hf : Tryd.pinned.checked.prog.funcNamed "stile/stilelaw01.ValueThree" = some f) (hfn : Tryd.pinned.checked.prog.funcs[f]? = some fn) :
    false = Tryd.pinned.checked.prog.looks [] ∧ ∀ (j : Nat) t, fn.params[j]? = some t → Tryd.pinned.checked.prog.wantsStandIn t = false := by
  obtain rfl : f = 9 := Option.some.inj ((show Tryd.prog.funcNamed "stile/stilelaw01.ValueThree" = some 9 by kernel_rfl).symm.trans hf) |>.symm
  obtain rfl : fn = Tryd.f9 := (Option.some.inj (Tryd.func9.symm.trans hfn)).symm
  refine ⟨by kernel_rfl, fun j t ht => ?_⟩
  rw [Tryd.params9] at ht
  have hm : t ∈ [25, 25] := by simpa using Array.mem_of_getElem? ht
  have hall : ([25, 25].all fun u => !Tryd.prog.wantsStandIn u) = true := by kernel_rfl
  exact (show Tryd.prog.wantsStandIn t = false by simpa using List.all_eq_true.1 hall t hm)
end Go.Proofs.YtlmkhpgnkpgbdaaDoor.valueThree
namespace Go.Proofs.YtlmkhpgnkpgbdaaDoor
/-- THE CARD: the row, its two tables tied to the program's text. -/
theorem valueThree_card : Rows.ValueThreeCardSaid :=
  Claim7.holds_tied_plain_at .later [] _ _ _ _ valueThree.said (fun _ h => by cases h) (by kernel_rfl) (fun _ h => by cases h) valueThree_row_tie rfl ⟨rfl, rfl⟩ (by kernel_rfl) rfl valueThree.plain (by kernel_rfl)
#print axioms valueThree_card
end Go.Proofs.YtlmkhpgnkpgbdaaDoor
